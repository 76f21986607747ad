/- The facts of the types of the program that the claim is about: how many cells and bytes a value has, which parts, which zero value, and which values are compared cell by cell. -/
import Derived.Test.YteonfhnljphbpaaProg
import Derived.Test.YteonfhnljphbpaaDa
import Derived.Test.YteonfhnljphbpaaRows
set_option linter.all false
set_option linter.unnecessarySimpa false
section
set_option linter.unusedVariables false
namespace Go.Proofs.Yteonfhnljphbpaa
open Go Go.AI Go.Proofs
@[simp] theorem td1 : td Try.prog 1 = .func := by kernel_rfl
@[simp] theorem sz1 : sz Try.prog 1 = 1 := by kernel_rfl
@[simp] theorem byt1 : byt Try.prog 1 = 8 := by kernel_rfl
@[simp] theorem zr1 : zr Try.prog 1 = .nilf := by kernel_rfl
@[simp] theorem td2 : td Try.prog 2 = .int .i64 := by kernel_rfl
@[simp] theorem sz2 : sz Try.prog 2 = 1 := by kernel_rfl
@[simp] theorem byt2 : byt Try.prog 2 = 8 := by kernel_rfl
@[simp] theorem zr2 : zr Try.prog 2 = .int .i64 0 := by kernel_rfl
@[simp] theorem td3 : td Try.prog 3 = .int .i64 := by kernel_rfl
@[simp] theorem sz3 : sz Try.prog 3 = 1 := by kernel_rfl
@[simp] theorem byt3 : byt Try.prog 3 = 8 := by kernel_rfl
@[simp] theorem zr3 : zr Try.prog 3 = .int .i64 0 := by kernel_rfl
@[simp] theorem td4 : td Try.prog 4 = .bool := by kernel_rfl
@[simp] theorem sz4 : sz Try.prog 4 = 1 := by kernel_rfl
@[simp] theorem byt4 : byt Try.prog 4 = 1 := by kernel_rfl
@[simp] theorem zr4 : zr Try.prog 4 = .bool false := by kernel_rfl
@[simp] theorem td5 : td Try.prog 5 = .int .u8 := by kernel_rfl
@[simp] theorem sz5 : sz Try.prog 5 = 1 := by kernel_rfl
@[simp] theorem byt5 : byt Try.prog 5 = 1 := by kernel_rfl
@[simp] theorem zr5 : zr Try.prog 5 = .int .u8 0 := by kernel_rfl
@[simp] theorem td6 : td Try.prog 6 = .int .u8 := by kernel_rfl
@[simp] theorem sz6 : sz Try.prog 6 = 1 := by kernel_rfl
@[simp] theorem byt6 : byt Try.prog 6 = 1 := by kernel_rfl
@[simp] theorem zr6 : zr Try.prog 6 = .int .u8 0 := by kernel_rfl
@[simp] theorem td7 : td Try.prog 7 = .struct [(0, 2), (1, 3), (2, 4), (3, 6)] := by kernel_rfl
@[simp] theorem sz7 : sz Try.prog 7 = 4 := by kernel_rfl
@[simp] theorem byt7 : byt Try.prog 7 = 24 := by kernel_rfl
@[simp] theorem zr7 : zr Try.prog 7 = .agg ([.int .i64 0, .int .i64 0, .bool false, .int .u8 0]) := by kernel_rfl
@[simp] theorem fl7 : flatT Try.prog 7 = some ([false, false, true, false]) := by kernel_rfl
@[simp] theorem td8 : td Try.prog 8 = .struct [(0, 2), (1, 3), (2, 4), (3, 6)] := by kernel_rfl
@[simp] theorem sz8 : sz Try.prog 8 = 4 := by kernel_rfl
@[simp] theorem byt8 : byt Try.prog 8 = 24 := by kernel_rfl
@[simp] theorem zr8 : zr Try.prog 8 = .agg ([.int .i64 0, .int .i64 0, .bool false, .int .u8 0]) := by kernel_rfl
@[simp] theorem fl8 : flatT Try.prog 8 = some ([false, false, true, false]) := by kernel_rfl
@[simp] theorem td9 : td Try.prog 9 = .string := by kernel_rfl
@[simp] theorem sz9 : sz Try.prog 9 = 1 := by kernel_rfl
@[simp] theorem byt9 : byt Try.prog 9 = 16 := by kernel_rfl
@[simp] theorem zr9 : zr Try.prog 9 = .str ByteArray.empty := by kernel_rfl
@[simp] theorem td10 : td Try.prog 10 = .string := by kernel_rfl
@[simp] theorem sz10 : sz Try.prog 10 = 1 := by kernel_rfl
@[simp] theorem byt10 : byt Try.prog 10 = 16 := by kernel_rfl
@[simp] theorem zr10 : zr Try.prog 10 = .str ByteArray.empty := by kernel_rfl
@[simp] theorem td11 : td Try.prog 11 = .string := by kernel_rfl
@[simp] theorem sz11 : sz Try.prog 11 = 1 := by kernel_rfl
@[simp] theorem byt11 : byt Try.prog 11 = 16 := by kernel_rfl
@[simp] theorem zr11 : zr Try.prog 11 = .str ByteArray.empty := by kernel_rfl
@[simp] theorem td12 : td Try.prog 12 = .int .u64 := by kernel_rfl
@[simp] theorem sz12 : sz Try.prog 12 = 1 := by kernel_rfl
@[simp] theorem byt12 : byt Try.prog 12 = 8 := by kernel_rfl
@[simp] theorem zr12 : zr Try.prog 12 = .int .u64 0 := by kernel_rfl
@[simp] theorem td13 : td Try.prog 13 = .struct [(0, 9), (1, 12)] := by kernel_rfl
@[simp] theorem sz13 : sz Try.prog 13 = 2 := by kernel_rfl
@[simp] theorem byt13 : byt Try.prog 13 = 24 := by kernel_rfl
@[simp] theorem zr13 : zr Try.prog 13 = .agg ([.str ByteArray.empty, .int .u64 0]) := by kernel_rfl
@[simp] theorem td14 : td Try.prog 14 = .struct [(0, 9), (1, 12)] := by kernel_rfl
@[simp] theorem sz14 : sz Try.prog 14 = 2 := by kernel_rfl
@[simp] theorem byt14 : byt Try.prog 14 = 24 := by kernel_rfl
@[simp] theorem zr14 : zr Try.prog 14 = .agg ([.str ByteArray.empty, .int .u64 0]) := by kernel_rfl
@[simp] theorem td15 : td Try.prog 15 = .ptr 158 := by kernel_rfl
@[simp] theorem sz15 : sz Try.prog 15 = 1 := by kernel_rfl
@[simp] theorem byt15 : byt Try.prog 15 = 8 := by kernel_rfl
@[simp] theorem zr15 : zr Try.prog 15 = .nilp := by kernel_rfl
@[simp] theorem td16 : td Try.prog 16 = .ptr 161 := by kernel_rfl
@[simp] theorem sz16 : sz Try.prog 16 = 1 := by kernel_rfl
@[simp] theorem byt16 : byt Try.prog 16 = 8 := by kernel_rfl
@[simp] theorem zr16 : zr Try.prog 16 = .nilp := by kernel_rfl
@[simp] theorem td17 : td Try.prog 17 = .ptr 171 := by kernel_rfl
@[simp] theorem sz17 : sz Try.prog 17 = 1 := by kernel_rfl
@[simp] theorem byt17 : byt Try.prog 17 = 8 := by kernel_rfl
@[simp] theorem zr17 : zr Try.prog 17 = .nilp := by kernel_rfl
@[simp] theorem td18 : td Try.prog 18 = .struct [(0, 17)] := by kernel_rfl
@[simp] theorem sz18 : sz Try.prog 18 = 1 := by kernel_rfl
@[simp] theorem byt18 : byt Try.prog 18 = 8 := by kernel_rfl
@[simp] theorem zr18 : zr Try.prog 18 = .agg ([.nilp]) := by kernel_rfl
@[simp] theorem td19 : td Try.prog 19 = .struct [(0, 17)] := by kernel_rfl
@[simp] theorem sz19 : sz Try.prog 19 = 1 := by kernel_rfl
@[simp] theorem byt19 : byt Try.prog 19 = 8 := by kernel_rfl
@[simp] theorem zr19 : zr Try.prog 19 = .agg ([.nilp]) := by kernel_rfl
@[simp] theorem td20 : td Try.prog 20 = .iface true := by kernel_rfl
@[simp] theorem sz20 : sz Try.prog 20 = 1 := by kernel_rfl
@[simp] theorem byt20 : byt Try.prog 20 = 16 := by kernel_rfl
@[simp] theorem zr20 : zr Try.prog 20 = .niface := by kernel_rfl
@[simp] theorem td21 : td Try.prog 21 = .int .i32 := by kernel_rfl
@[simp] theorem sz21 : sz Try.prog 21 = 1 := by kernel_rfl
@[simp] theorem byt21 : byt Try.prog 21 = 4 := by kernel_rfl
@[simp] theorem zr21 : zr Try.prog 21 = .int .i32 0 := by kernel_rfl
@[simp] theorem td22 : td Try.prog 22 = .slice 5 := by kernel_rfl
@[simp] theorem sz22 : sz Try.prog 22 = 1 := by kernel_rfl
@[simp] theorem byt22 : byt Try.prog 22 = 24 := by kernel_rfl
@[simp] theorem zr22 : zr Try.prog 22 = .sl true 0 [] := by kernel_rfl
@[simp] theorem td23 : td Try.prog 23 = .func := by kernel_rfl
@[simp] theorem sz23 : sz Try.prog 23 = 1 := by kernel_rfl
@[simp] theorem byt23 : byt Try.prog 23 = 8 := by kernel_rfl
@[simp] theorem zr23 : zr Try.prog 23 = .nilf := by kernel_rfl
@[simp] theorem td24 : td Try.prog 24 = .slice 43 := by kernel_rfl
@[simp] theorem sz24 : sz Try.prog 24 = 1 := by kernel_rfl
@[simp] theorem byt24 : byt Try.prog 24 = 24 := by kernel_rfl
@[simp] theorem zr24 : zr Try.prog 24 = .sl true 0 [] := by kernel_rfl
@[simp] theorem td25 : td Try.prog 25 = .struct [(0, 4), (1, 3), (2, 3)] := by kernel_rfl
@[simp] theorem sz25 : sz Try.prog 25 = 3 := by kernel_rfl
@[simp] theorem byt25 : byt Try.prog 25 = 24 := by kernel_rfl
@[simp] theorem zr25 : zr Try.prog 25 = .agg ([.bool false, .int .i64 0, .int .i64 0]) := by kernel_rfl
@[simp] theorem fl25 : flatT Try.prog 25 = some ([true, false, false]) := by kernel_rfl
@[simp] theorem td26 : td Try.prog 26 = .struct [(0, 4), (1, 3), (2, 3)] := by kernel_rfl
@[simp] theorem sz26 : sz Try.prog 26 = 3 := by kernel_rfl
@[simp] theorem byt26 : byt Try.prog 26 = 24 := by kernel_rfl
@[simp] theorem zr26 : zr Try.prog 26 = .agg ([.bool false, .int .i64 0, .int .i64 0]) := by kernel_rfl
@[simp] theorem fl26 : flatT Try.prog 26 = some ([true, false, false]) := by kernel_rfl
@[simp] theorem td28 : td Try.prog 28 = .func := by kernel_rfl
@[simp] theorem sz28 : sz Try.prog 28 = 1 := by kernel_rfl
@[simp] theorem byt28 : byt Try.prog 28 = 8 := by kernel_rfl
@[simp] theorem zr28 : zr Try.prog 28 = .nilf := by kernel_rfl
@[simp] theorem td29 : td Try.prog 29 = .func := by kernel_rfl
@[simp] theorem sz29 : sz Try.prog 29 = 1 := by kernel_rfl
@[simp] theorem byt29 : byt Try.prog 29 = 8 := by kernel_rfl
@[simp] theorem zr29 : zr Try.prog 29 = .nilf := by kernel_rfl
@[simp] theorem td30 : td Try.prog 30 = .func := by kernel_rfl
@[simp] theorem sz30 : sz Try.prog 30 = 1 := by kernel_rfl
@[simp] theorem byt30 : byt Try.prog 30 = 8 := by kernel_rfl
@[simp] theorem zr30 : zr Try.prog 30 = .nilf := by kernel_rfl
@[simp] theorem td31 : td Try.prog 31 = .int .i64 := by kernel_rfl
@[simp] theorem sz31 : sz Try.prog 31 = 1 := by kernel_rfl
@[simp] theorem byt31 : byt Try.prog 31 = 8 := by kernel_rfl
@[simp] theorem zr31 : zr Try.prog 31 = .int .i64 0 := by kernel_rfl
@[simp] theorem td33 : td Try.prog 33 = .func := by kernel_rfl
@[simp] theorem sz33 : sz Try.prog 33 = 1 := by kernel_rfl
@[simp] theorem byt33 : byt Try.prog 33 = 8 := by kernel_rfl
@[simp] theorem zr33 : zr Try.prog 33 = .nilf := by kernel_rfl
@[simp] theorem td34 : td Try.prog 34 = .func := by kernel_rfl
@[simp] theorem sz34 : sz Try.prog 34 = 1 := by kernel_rfl
@[simp] theorem byt34 : byt Try.prog 34 = 8 := by kernel_rfl
@[simp] theorem zr34 : zr Try.prog 34 = .nilf := by kernel_rfl
@[simp] theorem td35 : td Try.prog 35 = .func := by kernel_rfl
@[simp] theorem sz35 : sz Try.prog 35 = 1 := by kernel_rfl
@[simp] theorem byt35 : byt Try.prog 35 = 8 := by kernel_rfl
@[simp] theorem zr35 : zr Try.prog 35 = .nilf := by kernel_rfl
@[simp] theorem td36 : td Try.prog 36 = .func := by kernel_rfl
@[simp] theorem sz36 : sz Try.prog 36 = 1 := by kernel_rfl
@[simp] theorem byt36 : byt Try.prog 36 = 8 := by kernel_rfl
@[simp] theorem zr36 : zr Try.prog 36 = .nilf := by kernel_rfl
@[simp] theorem td37 : td Try.prog 37 = .int .u64 := by kernel_rfl
@[simp] theorem sz37 : sz Try.prog 37 = 1 := by kernel_rfl
@[simp] theorem byt37 : byt Try.prog 37 = 8 := by kernel_rfl
@[simp] theorem zr37 : zr Try.prog 37 = .int .u64 0 := by kernel_rfl
@[simp] theorem td38 : td Try.prog 38 = .struct [(0, 37), (1, 37)] := by kernel_rfl
@[simp] theorem sz38 : sz Try.prog 38 = 2 := by kernel_rfl
@[simp] theorem byt38 : byt Try.prog 38 = 16 := by kernel_rfl
@[simp] theorem zr38 : zr Try.prog 38 = .agg ([.int .u64 0, .int .u64 0]) := by kernel_rfl
@[simp] theorem fl38 : flatT Try.prog 38 = some ([false, false]) := by kernel_rfl
@[simp] theorem td39 : td Try.prog 39 = .struct [(0, 37), (1, 37)] := by kernel_rfl
@[simp] theorem sz39 : sz Try.prog 39 = 2 := by kernel_rfl
@[simp] theorem byt39 : byt Try.prog 39 = 16 := by kernel_rfl
@[simp] theorem zr39 : zr Try.prog 39 = .agg ([.int .u64 0, .int .u64 0]) := by kernel_rfl
@[simp] theorem fl39 : flatT Try.prog 39 = some ([false, false]) := by kernel_rfl
@[simp] theorem td40 : td Try.prog 40 = .struct [(0, 3), (1, 4), (2, 39), (4, 39)] := by kernel_rfl
@[simp] theorem sz40 : sz Try.prog 40 = 6 := by kernel_rfl
@[simp] theorem byt40 : byt Try.prog 40 = 48 := by kernel_rfl
@[simp] theorem zr40 : zr Try.prog 40 = .agg ([.int .i64 0, .bool false, .int .u64 0, .int .u64 0, .int .u64 0, .int .u64 0]) := by kernel_rfl
@[simp] theorem fl40 : flatT Try.prog 40 = some ([false, true, false, false, false, false]) := by kernel_rfl
@[simp] theorem td41 : td Try.prog 41 = .struct [(0, 3), (1, 4), (2, 39), (4, 39)] := by kernel_rfl
@[simp] theorem sz41 : sz Try.prog 41 = 6 := by kernel_rfl
@[simp] theorem byt41 : byt Try.prog 41 = 48 := by kernel_rfl
@[simp] theorem zr41 : zr Try.prog 41 = .agg ([.int .i64 0, .bool false, .int .u64 0, .int .u64 0, .int .u64 0, .int .u64 0]) := by kernel_rfl
@[simp] theorem fl41 : flatT Try.prog 41 = some ([false, true, false, false, false, false]) := by kernel_rfl
@[simp] theorem td42 : td Try.prog 42 = .struct [(0, 3), (1, 3), (2, 3), (3, 3), (4, 3), (5, 41)] := by kernel_rfl
@[simp] theorem sz42 : sz Try.prog 42 = 11 := by kernel_rfl
@[simp] theorem byt42 : byt Try.prog 42 = 88 := by kernel_rfl
@[simp] theorem zr42 : zr Try.prog 42 = .agg ([.int .i64 0, .int .i64 0, .int .i64 0, .int .i64 0, .int .i64 0, .int .i64 0, .bool false, .int .u64 0, .int .u64 0, .int .u64 0, .int .u64 0]) := by kernel_rfl
@[simp] theorem fl42 : flatT Try.prog 42 = some ([false, false, false, false, false, false, true, false, false, false, false]) := by kernel_rfl
@[simp] theorem td43 : td Try.prog 43 = .struct [(0, 3), (1, 3), (2, 3), (3, 3), (4, 3), (5, 41)] := by kernel_rfl
@[simp] theorem sz43 : sz Try.prog 43 = 11 := by kernel_rfl
@[simp] theorem byt43 : byt Try.prog 43 = 88 := by kernel_rfl
@[simp] theorem zr43 : zr Try.prog 43 = .agg ([.int .i64 0, .int .i64 0, .int .i64 0, .int .i64 0, .int .i64 0, .int .i64 0, .bool false, .int .u64 0, .int .u64 0, .int .u64 0, .int .u64 0]) := by kernel_rfl
@[simp] theorem fl43 : flatT Try.prog 43 = some ([false, false, false, false, false, false, true, false, false, false, false]) := by kernel_rfl
@[simp] theorem td44 : td Try.prog 44 = .func := by kernel_rfl
@[simp] theorem sz44 : sz Try.prog 44 = 1 := by kernel_rfl
@[simp] theorem byt44 : byt Try.prog 44 = 8 := by kernel_rfl
@[simp] theorem zr44 : zr Try.prog 44 = .nilf := by kernel_rfl
@[simp] theorem td45 : td Try.prog 45 = .func := by kernel_rfl
@[simp] theorem sz45 : sz Try.prog 45 = 1 := by kernel_rfl
@[simp] theorem byt45 : byt Try.prog 45 = 8 := by kernel_rfl
@[simp] theorem zr45 : zr Try.prog 45 = .nilf := by kernel_rfl
@[simp] theorem td46 : td Try.prog 46 = .func := by kernel_rfl
@[simp] theorem sz46 : sz Try.prog 46 = 1 := by kernel_rfl
@[simp] theorem byt46 : byt Try.prog 46 = 8 := by kernel_rfl
@[simp] theorem zr46 : zr Try.prog 46 = .nilf := by kernel_rfl
@[simp] theorem td47 : td Try.prog 47 = .slice 55 := by kernel_rfl
@[simp] theorem sz47 : sz Try.prog 47 = 1 := by kernel_rfl
@[simp] theorem byt47 : byt Try.prog 47 = 24 := by kernel_rfl
@[simp] theorem zr47 : zr Try.prog 47 = .sl true 0 [] := by kernel_rfl
@[simp] theorem td49 : td Try.prog 49 = .func := by kernel_rfl
@[simp] theorem sz49 : sz Try.prog 49 = 1 := by kernel_rfl
@[simp] theorem byt49 : byt Try.prog 49 = 8 := by kernel_rfl
@[simp] theorem zr49 : zr Try.prog 49 = .nilf := by kernel_rfl
@[simp] theorem td50 : td Try.prog 50 = .func := by kernel_rfl
@[simp] theorem sz50 : sz Try.prog 50 = 1 := by kernel_rfl
@[simp] theorem byt50 : byt Try.prog 50 = 8 := by kernel_rfl
@[simp] theorem zr50 : zr Try.prog 50 = .nilf := by kernel_rfl
@[simp] theorem td51 : td Try.prog 51 = .func := by kernel_rfl
@[simp] theorem sz51 : sz Try.prog 51 = 1 := by kernel_rfl
@[simp] theorem byt51 : byt Try.prog 51 = 8 := by kernel_rfl
@[simp] theorem zr51 : zr Try.prog 51 = .nilf := by kernel_rfl
@[simp] theorem td52 : td Try.prog 52 = .func := by kernel_rfl
@[simp] theorem sz52 : sz Try.prog 52 = 1 := by kernel_rfl
@[simp] theorem byt52 : byt Try.prog 52 = 8 := by kernel_rfl
@[simp] theorem zr52 : zr Try.prog 52 = .nilf := by kernel_rfl
@[simp] theorem td53 : td Try.prog 53 = .func := by kernel_rfl
@[simp] theorem sz53 : sz Try.prog 53 = 1 := by kernel_rfl
@[simp] theorem byt53 : byt Try.prog 53 = 8 := by kernel_rfl
@[simp] theorem zr53 : zr Try.prog 53 = .nilf := by kernel_rfl
@[simp] theorem td54 : td Try.prog 54 = .struct [(0, 3), (1, 3), (2, 3), (3, 24)] := by kernel_rfl
@[simp] theorem sz54 : sz Try.prog 54 = 4 := by kernel_rfl
@[simp] theorem byt54 : byt Try.prog 54 = 48 := by kernel_rfl
@[simp] theorem zr54 : zr Try.prog 54 = .agg ([.int .i64 0, .int .i64 0, .int .i64 0, .sl true 0 []]) := by kernel_rfl
@[simp] theorem td55 : td Try.prog 55 = .struct [(0, 3), (1, 3), (2, 3), (3, 24)] := by kernel_rfl
@[simp] theorem sz55 : sz Try.prog 55 = 4 := by kernel_rfl
@[simp] theorem byt55 : byt Try.prog 55 = 48 := by kernel_rfl
@[simp] theorem zr55 : zr Try.prog 55 = .agg ([.int .i64 0, .int .i64 0, .int .i64 0, .sl true 0 []]) := by kernel_rfl
@[simp] theorem td56 : td Try.prog 56 = .func := by kernel_rfl
@[simp] theorem sz56 : sz Try.prog 56 = 1 := by kernel_rfl
@[simp] theorem byt56 : byt Try.prog 56 = 8 := by kernel_rfl
@[simp] theorem zr56 : zr Try.prog 56 = .nilf := by kernel_rfl
@[simp] theorem td57 : td Try.prog 57 = .func := by kernel_rfl
@[simp] theorem sz57 : sz Try.prog 57 = 1 := by kernel_rfl
@[simp] theorem byt57 : byt Try.prog 57 = 8 := by kernel_rfl
@[simp] theorem zr57 : zr Try.prog 57 = .nilf := by kernel_rfl
@[simp] theorem td58 : td Try.prog 58 = .struct [(0, 3), (1, 3), (2, 3), (3, 47)] := by kernel_rfl
@[simp] theorem sz58 : sz Try.prog 58 = 4 := by kernel_rfl
@[simp] theorem byt58 : byt Try.prog 58 = 48 := by kernel_rfl
@[simp] theorem zr58 : zr Try.prog 58 = .agg ([.int .i64 0, .int .i64 0, .int .i64 0, .sl true 0 []]) := by kernel_rfl
@[simp] theorem td59 : td Try.prog 59 = .struct [(0, 3), (1, 3), (2, 3), (3, 47)] := by kernel_rfl
@[simp] theorem sz59 : sz Try.prog 59 = 4 := by kernel_rfl
@[simp] theorem byt59 : byt Try.prog 59 = 48 := by kernel_rfl
@[simp] theorem zr59 : zr Try.prog 59 = .agg ([.int .i64 0, .int .i64 0, .int .i64 0, .sl true 0 []]) := by kernel_rfl
@[simp] theorem td60 : td Try.prog 60 = .func := by kernel_rfl
@[simp] theorem sz60 : sz Try.prog 60 = 1 := by kernel_rfl
@[simp] theorem byt60 : byt Try.prog 60 = 8 := by kernel_rfl
@[simp] theorem zr60 : zr Try.prog 60 = .nilf := by kernel_rfl
@[simp] theorem td62 : td Try.prog 62 = .func := by kernel_rfl
@[simp] theorem sz62 : sz Try.prog 62 = 1 := by kernel_rfl
@[simp] theorem byt62 : byt Try.prog 62 = 8 := by kernel_rfl
@[simp] theorem zr62 : zr Try.prog 62 = .nilf := by kernel_rfl
@[simp] theorem td63 : td Try.prog 63 = .func := by kernel_rfl
@[simp] theorem sz63 : sz Try.prog 63 = 1 := by kernel_rfl
@[simp] theorem byt63 : byt Try.prog 63 = 8 := by kernel_rfl
@[simp] theorem zr63 : zr Try.prog 63 = .nilf := by kernel_rfl
@[simp] theorem td64 : td Try.prog 64 = .func := by kernel_rfl
@[simp] theorem sz64 : sz Try.prog 64 = 1 := by kernel_rfl
@[simp] theorem byt64 : byt Try.prog 64 = 8 := by kernel_rfl
@[simp] theorem zr64 : zr Try.prog 64 = .nilf := by kernel_rfl
@[simp] theorem td65 : td Try.prog 65 = .slice 69 := by kernel_rfl
@[simp] theorem sz65 : sz Try.prog 65 = 1 := by kernel_rfl
@[simp] theorem byt65 : byt Try.prog 65 = 24 := by kernel_rfl
@[simp] theorem zr65 : zr Try.prog 65 = .sl true 0 [] := by kernel_rfl
@[simp] theorem td67 : td Try.prog 67 = .func := by kernel_rfl
@[simp] theorem sz67 : sz Try.prog 67 = 1 := by kernel_rfl
@[simp] theorem byt67 : byt Try.prog 67 = 8 := by kernel_rfl
@[simp] theorem zr67 : zr Try.prog 67 = .nilf := by kernel_rfl
@[simp] theorem td68 : td Try.prog 68 = .struct [(0, 3), (1, 3), (2, 39), (4, 39), (6, 24)] := by kernel_rfl
@[simp] theorem sz68 : sz Try.prog 68 = 7 := by kernel_rfl
@[simp] theorem byt68 : byt Try.prog 68 = 72 := by kernel_rfl
@[simp] theorem zr68 : zr Try.prog 68 = .agg ([.int .i64 0, .int .i64 0, .int .u64 0, .int .u64 0, .int .u64 0, .int .u64 0, .sl true 0 []]) := by kernel_rfl
@[simp] theorem td69 : td Try.prog 69 = .struct [(0, 3), (1, 3), (2, 39), (4, 39), (6, 24)] := by kernel_rfl
@[simp] theorem sz69 : sz Try.prog 69 = 7 := by kernel_rfl
@[simp] theorem byt69 : byt Try.prog 69 = 72 := by kernel_rfl
@[simp] theorem zr69 : zr Try.prog 69 = .agg ([.int .i64 0, .int .i64 0, .int .u64 0, .int .u64 0, .int .u64 0, .int .u64 0, .sl true 0 []]) := by kernel_rfl
@[simp] theorem td71 : td Try.prog 71 = .func := by kernel_rfl
@[simp] theorem sz71 : sz Try.prog 71 = 1 := by kernel_rfl
@[simp] theorem byt71 : byt Try.prog 71 = 8 := by kernel_rfl
@[simp] theorem zr71 : zr Try.prog 71 = .nilf := by kernel_rfl
@[simp] theorem td72 : td Try.prog 72 = .func := by kernel_rfl
@[simp] theorem sz72 : sz Try.prog 72 = 1 := by kernel_rfl
@[simp] theorem byt72 : byt Try.prog 72 = 8 := by kernel_rfl
@[simp] theorem zr72 : zr Try.prog 72 = .nilf := by kernel_rfl
@[simp] theorem td73 : td Try.prog 73 = .func := by kernel_rfl
@[simp] theorem sz73 : sz Try.prog 73 = 1 := by kernel_rfl
@[simp] theorem byt73 : byt Try.prog 73 = 8 := by kernel_rfl
@[simp] theorem zr73 : zr Try.prog 73 = .nilf := by kernel_rfl
@[simp] theorem td74 : td Try.prog 74 = .func := by kernel_rfl
@[simp] theorem sz74 : sz Try.prog 74 = 1 := by kernel_rfl
@[simp] theorem byt74 : byt Try.prog 74 = 8 := by kernel_rfl
@[simp] theorem zr74 : zr Try.prog 74 = .nilf := by kernel_rfl
@[simp] theorem td75 : td Try.prog 75 = .func := by kernel_rfl
@[simp] theorem sz75 : sz Try.prog 75 = 1 := by kernel_rfl
@[simp] theorem byt75 : byt Try.prog 75 = 8 := by kernel_rfl
@[simp] theorem zr75 : zr Try.prog 75 = .nilf := by kernel_rfl
@[simp] theorem td76 : td Try.prog 76 = .func := by kernel_rfl
@[simp] theorem sz76 : sz Try.prog 76 = 1 := by kernel_rfl
@[simp] theorem byt76 : byt Try.prog 76 = 8 := by kernel_rfl
@[simp] theorem zr76 : zr Try.prog 76 = .nilf := by kernel_rfl
@[simp] theorem td77 : td Try.prog 77 = .func := by kernel_rfl
@[simp] theorem sz77 : sz Try.prog 77 = 1 := by kernel_rfl
@[simp] theorem byt77 : byt Try.prog 77 = 8 := by kernel_rfl
@[simp] theorem zr77 : zr Try.prog 77 = .nilf := by kernel_rfl
@[simp] theorem td78 : td Try.prog 78 = .slice 3 := by kernel_rfl
@[simp] theorem sz78 : sz Try.prog 78 = 1 := by kernel_rfl
@[simp] theorem byt78 : byt Try.prog 78 = 24 := by kernel_rfl
@[simp] theorem zr78 : zr Try.prog 78 = .sl true 0 [] := by kernel_rfl
@[simp] theorem td79 : td Try.prog 79 = .func := by kernel_rfl
@[simp] theorem sz79 : sz Try.prog 79 = 1 := by kernel_rfl
@[simp] theorem byt79 : byt Try.prog 79 = 8 := by kernel_rfl
@[simp] theorem zr79 : zr Try.prog 79 = .nilf := by kernel_rfl
@[simp] theorem td81 : td Try.prog 81 = .func := by kernel_rfl
@[simp] theorem sz81 : sz Try.prog 81 = 1 := by kernel_rfl
@[simp] theorem byt81 : byt Try.prog 81 = 8 := by kernel_rfl
@[simp] theorem zr81 : zr Try.prog 81 = .nilf := by kernel_rfl
@[simp] theorem td82 : td Try.prog 82 = .func := by kernel_rfl
@[simp] theorem sz82 : sz Try.prog 82 = 1 := by kernel_rfl
@[simp] theorem byt82 : byt Try.prog 82 = 8 := by kernel_rfl
@[simp] theorem zr82 : zr Try.prog 82 = .nilf := by kernel_rfl
@[simp] theorem td83 : td Try.prog 83 = .func := by kernel_rfl
@[simp] theorem sz83 : sz Try.prog 83 = 1 := by kernel_rfl
@[simp] theorem byt83 : byt Try.prog 83 = 8 := by kernel_rfl
@[simp] theorem zr83 : zr Try.prog 83 = .nilf := by kernel_rfl
@[simp] theorem td84 : td Try.prog 84 = .func := by kernel_rfl
@[simp] theorem sz84 : sz Try.prog 84 = 1 := by kernel_rfl
@[simp] theorem byt84 : byt Try.prog 84 = 8 := by kernel_rfl
@[simp] theorem zr84 : zr Try.prog 84 = .nilf := by kernel_rfl
@[simp] theorem td85 : td Try.prog 85 = .func := by kernel_rfl
@[simp] theorem sz85 : sz Try.prog 85 = 1 := by kernel_rfl
@[simp] theorem byt85 : byt Try.prog 85 = 8 := by kernel_rfl
@[simp] theorem zr85 : zr Try.prog 85 = .nilf := by kernel_rfl
@[simp] theorem td86 : td Try.prog 86 = .func := by kernel_rfl
@[simp] theorem sz86 : sz Try.prog 86 = 1 := by kernel_rfl
@[simp] theorem byt86 : byt Try.prog 86 = 8 := by kernel_rfl
@[simp] theorem zr86 : zr Try.prog 86 = .nilf := by kernel_rfl
@[simp] theorem td88 : td Try.prog 88 = .func := by kernel_rfl
@[simp] theorem sz88 : sz Try.prog 88 = 1 := by kernel_rfl
@[simp] theorem byt88 : byt Try.prog 88 = 8 := by kernel_rfl
@[simp] theorem zr88 : zr Try.prog 88 = .nilf := by kernel_rfl
@[simp] theorem td90 : td Try.prog 90 = .func := by kernel_rfl
@[simp] theorem sz90 : sz Try.prog 90 = 1 := by kernel_rfl
@[simp] theorem byt90 : byt Try.prog 90 = 8 := by kernel_rfl
@[simp] theorem zr90 : zr Try.prog 90 = .nilf := by kernel_rfl
@[simp] theorem td91 : td Try.prog 91 = .func := by kernel_rfl
@[simp] theorem sz91 : sz Try.prog 91 = 1 := by kernel_rfl
@[simp] theorem byt91 : byt Try.prog 91 = 8 := by kernel_rfl
@[simp] theorem zr91 : zr Try.prog 91 = .nilf := by kernel_rfl
@[simp] theorem td92 : td Try.prog 92 = .func := by kernel_rfl
@[simp] theorem sz92 : sz Try.prog 92 = 1 := by kernel_rfl
@[simp] theorem byt92 : byt Try.prog 92 = 8 := by kernel_rfl
@[simp] theorem zr92 : zr Try.prog 92 = .nilf := by kernel_rfl
@[simp] theorem td93 : td Try.prog 93 = .func := by kernel_rfl
@[simp] theorem sz93 : sz Try.prog 93 = 1 := by kernel_rfl
@[simp] theorem byt93 : byt Try.prog 93 = 8 := by kernel_rfl
@[simp] theorem zr93 : zr Try.prog 93 = .nilf := by kernel_rfl
@[simp] theorem td94 : td Try.prog 94 = .func := by kernel_rfl
@[simp] theorem sz94 : sz Try.prog 94 = 1 := by kernel_rfl
@[simp] theorem byt94 : byt Try.prog 94 = 8 := by kernel_rfl
@[simp] theorem zr94 : zr Try.prog 94 = .nilf := by kernel_rfl
@[simp] theorem td95 : td Try.prog 95 = .func := by kernel_rfl
@[simp] theorem sz95 : sz Try.prog 95 = 1 := by kernel_rfl
@[simp] theorem byt95 : byt Try.prog 95 = 8 := by kernel_rfl
@[simp] theorem zr95 : zr Try.prog 95 = .nilf := by kernel_rfl
@[simp] theorem td96 : td Try.prog 96 = .func := by kernel_rfl
@[simp] theorem sz96 : sz Try.prog 96 = 1 := by kernel_rfl
@[simp] theorem byt96 : byt Try.prog 96 = 8 := by kernel_rfl
@[simp] theorem zr96 : zr Try.prog 96 = .nilf := by kernel_rfl
@[simp] theorem td97 : td Try.prog 97 = .func := by kernel_rfl
@[simp] theorem sz97 : sz Try.prog 97 = 1 := by kernel_rfl
@[simp] theorem byt97 : byt Try.prog 97 = 8 := by kernel_rfl
@[simp] theorem zr97 : zr Try.prog 97 = .nilf := by kernel_rfl
@[simp] theorem td98 : td Try.prog 98 = .func := by kernel_rfl
@[simp] theorem sz98 : sz Try.prog 98 = 1 := by kernel_rfl
@[simp] theorem byt98 : byt Try.prog 98 = 8 := by kernel_rfl
@[simp] theorem zr98 : zr Try.prog 98 = .nilf := by kernel_rfl
@[simp] theorem td99 : td Try.prog 99 = .array 2 3 := by kernel_rfl
@[simp] theorem sz99 : sz Try.prog 99 = 2 := by kernel_rfl
@[simp] theorem byt99 : byt Try.prog 99 = 16 := by kernel_rfl
@[simp] theorem zr99 : zr Try.prog 99 = .agg ([.int .i64 0, .int .i64 0]) := by kernel_rfl
@[simp] theorem fl99 : flatT Try.prog 99 = some ([false, false]) := by kernel_rfl
@[simp] theorem td100 : td Try.prog 100 = .func := by kernel_rfl
@[simp] theorem sz100 : sz Try.prog 100 = 1 := by kernel_rfl
@[simp] theorem byt100 : byt Try.prog 100 = 8 := by kernel_rfl
@[simp] theorem zr100 : zr Try.prog 100 = .nilf := by kernel_rfl
@[simp] theorem td101 : td Try.prog 101 = .array 3 3 := by kernel_rfl
@[simp] theorem sz101 : sz Try.prog 101 = 3 := by kernel_rfl
@[simp] theorem byt101 : byt Try.prog 101 = 24 := by kernel_rfl
@[simp] theorem zr101 : zr Try.prog 101 = .agg ([.int .i64 0, .int .i64 0, .int .i64 0]) := by kernel_rfl
@[simp] theorem fl101 : flatT Try.prog 101 = some ([false, false, false]) := by kernel_rfl
@[simp] theorem td104 : td Try.prog 104 = .func := by kernel_rfl
@[simp] theorem sz104 : sz Try.prog 104 = 1 := by kernel_rfl
@[simp] theorem byt104 : byt Try.prog 104 = 8 := by kernel_rfl
@[simp] theorem zr104 : zr Try.prog 104 = .nilf := by kernel_rfl
@[simp] theorem td106 : td Try.prog 106 = .func := by kernel_rfl
@[simp] theorem sz106 : sz Try.prog 106 = 1 := by kernel_rfl
@[simp] theorem byt106 : byt Try.prog 106 = 8 := by kernel_rfl
@[simp] theorem zr106 : zr Try.prog 106 = .nilf := by kernel_rfl
@[simp] theorem td107 : td Try.prog 107 = .func := by kernel_rfl
@[simp] theorem sz107 : sz Try.prog 107 = 1 := by kernel_rfl
@[simp] theorem byt107 : byt Try.prog 107 = 8 := by kernel_rfl
@[simp] theorem zr107 : zr Try.prog 107 = .nilf := by kernel_rfl
@[simp] theorem td108 : td Try.prog 108 = .func := by kernel_rfl
@[simp] theorem sz108 : sz Try.prog 108 = 1 := by kernel_rfl
@[simp] theorem byt108 : byt Try.prog 108 = 8 := by kernel_rfl
@[simp] theorem zr108 : zr Try.prog 108 = .nilf := by kernel_rfl
@[simp] theorem td109 : td Try.prog 109 = .func := by kernel_rfl
@[simp] theorem sz109 : sz Try.prog 109 = 1 := by kernel_rfl
@[simp] theorem byt109 : byt Try.prog 109 = 8 := by kernel_rfl
@[simp] theorem zr109 : zr Try.prog 109 = .nilf := by kernel_rfl
@[simp] theorem td110 : td Try.prog 110 = .func := by kernel_rfl
@[simp] theorem sz110 : sz Try.prog 110 = 1 := by kernel_rfl
@[simp] theorem byt110 : byt Try.prog 110 = 8 := by kernel_rfl
@[simp] theorem zr110 : zr Try.prog 110 = .nilf := by kernel_rfl
@[simp] theorem td111 : td Try.prog 111 = .func := by kernel_rfl
@[simp] theorem sz111 : sz Try.prog 111 = 1 := by kernel_rfl
@[simp] theorem byt111 : byt Try.prog 111 = 8 := by kernel_rfl
@[simp] theorem zr111 : zr Try.prog 111 = .nilf := by kernel_rfl
@[simp] theorem td112 : td Try.prog 112 = .func := by kernel_rfl
@[simp] theorem sz112 : sz Try.prog 112 = 1 := by kernel_rfl
@[simp] theorem byt112 : byt Try.prog 112 = 8 := by kernel_rfl
@[simp] theorem zr112 : zr Try.prog 112 = .nilf := by kernel_rfl
@[simp] theorem td113 : td Try.prog 113 = .func := by kernel_rfl
@[simp] theorem sz113 : sz Try.prog 113 = 1 := by kernel_rfl
@[simp] theorem byt113 : byt Try.prog 113 = 8 := by kernel_rfl
@[simp] theorem zr113 : zr Try.prog 113 = .nilf := by kernel_rfl
@[simp] theorem td114 : td Try.prog 114 = .func := by kernel_rfl
@[simp] theorem sz114 : sz Try.prog 114 = 1 := by kernel_rfl
@[simp] theorem byt114 : byt Try.prog 114 = 8 := by kernel_rfl
@[simp] theorem zr114 : zr Try.prog 114 = .nilf := by kernel_rfl
@[simp] theorem td116 : td Try.prog 116 = .func := by kernel_rfl
@[simp] theorem sz116 : sz Try.prog 116 = 1 := by kernel_rfl
@[simp] theorem byt116 : byt Try.prog 116 = 8 := by kernel_rfl
@[simp] theorem zr116 : zr Try.prog 116 = .nilf := by kernel_rfl
@[simp] theorem td117 : td Try.prog 117 = .func := by kernel_rfl
@[simp] theorem sz117 : sz Try.prog 117 = 1 := by kernel_rfl
@[simp] theorem byt117 : byt Try.prog 117 = 8 := by kernel_rfl
@[simp] theorem zr117 : zr Try.prog 117 = .nilf := by kernel_rfl
@[simp] theorem td118 : td Try.prog 118 = .func := by kernel_rfl
@[simp] theorem sz118 : sz Try.prog 118 = 1 := by kernel_rfl
@[simp] theorem byt118 : byt Try.prog 118 = 8 := by kernel_rfl
@[simp] theorem zr118 : zr Try.prog 118 = .nilf := by kernel_rfl
@[simp] theorem td119 : td Try.prog 119 = .func := by kernel_rfl
@[simp] theorem sz119 : sz Try.prog 119 = 1 := by kernel_rfl
@[simp] theorem byt119 : byt Try.prog 119 = 8 := by kernel_rfl
@[simp] theorem zr119 : zr Try.prog 119 = .nilf := by kernel_rfl
@[simp] theorem td120 : td Try.prog 120 = .func := by kernel_rfl
@[simp] theorem sz120 : sz Try.prog 120 = 1 := by kernel_rfl
@[simp] theorem byt120 : byt Try.prog 120 = 8 := by kernel_rfl
@[simp] theorem zr120 : zr Try.prog 120 = .nilf := by kernel_rfl
@[simp] theorem td121 : td Try.prog 121 = .func := by kernel_rfl
@[simp] theorem sz121 : sz Try.prog 121 = 1 := by kernel_rfl
@[simp] theorem byt121 : byt Try.prog 121 = 8 := by kernel_rfl
@[simp] theorem zr121 : zr Try.prog 121 = .nilf := by kernel_rfl
@[simp] theorem td122 : td Try.prog 122 = .func := by kernel_rfl
@[simp] theorem sz122 : sz Try.prog 122 = 1 := by kernel_rfl
@[simp] theorem byt122 : byt Try.prog 122 = 8 := by kernel_rfl
@[simp] theorem zr122 : zr Try.prog 122 = .nilf := by kernel_rfl
@[simp] theorem td123 : td Try.prog 123 = .func := by kernel_rfl
@[simp] theorem sz123 : sz Try.prog 123 = 1 := by kernel_rfl
@[simp] theorem byt123 : byt Try.prog 123 = 8 := by kernel_rfl
@[simp] theorem zr123 : zr Try.prog 123 = .nilf := by kernel_rfl
@[simp] theorem td124 : td Try.prog 124 = .func := by kernel_rfl
@[simp] theorem sz124 : sz Try.prog 124 = 1 := by kernel_rfl
@[simp] theorem byt124 : byt Try.prog 124 = 8 := by kernel_rfl
@[simp] theorem zr124 : zr Try.prog 124 = .nilf := by kernel_rfl
@[simp] theorem td125 : td Try.prog 125 = .array 4 5 := by kernel_rfl
@[simp] theorem sz125 : sz Try.prog 125 = 4 := by kernel_rfl
@[simp] theorem byt125 : byt Try.prog 125 = 4 := by kernel_rfl
@[simp] theorem zr125 : zr Try.prog 125 = .agg ([.int .u8 0, .int .u8 0, .int .u8 0, .int .u8 0]) := by kernel_rfl
@[simp] theorem fl125 : flatT Try.prog 125 = some ([false, false, false, false]) := by kernel_rfl
@[simp] theorem td126 : td Try.prog 126 = .slice 99 := by kernel_rfl
@[simp] theorem sz126 : sz Try.prog 126 = 1 := by kernel_rfl
@[simp] theorem byt126 : byt Try.prog 126 = 24 := by kernel_rfl
@[simp] theorem zr126 : zr Try.prog 126 = .sl true 0 [] := by kernel_rfl
@[simp] theorem td127 : td Try.prog 127 = .int .u64 := by kernel_rfl
@[simp] theorem sz127 : sz Try.prog 127 = 1 := by kernel_rfl
@[simp] theorem byt127 : byt Try.prog 127 = 8 := by kernel_rfl
@[simp] theorem zr127 : zr Try.prog 127 = .int .u64 0 := by kernel_rfl
@[simp] theorem td128 : td Try.prog 128 = .func := by kernel_rfl
@[simp] theorem sz128 : sz Try.prog 128 = 1 := by kernel_rfl
@[simp] theorem byt128 : byt Try.prog 128 = 8 := by kernel_rfl
@[simp] theorem zr128 : zr Try.prog 128 = .nilf := by kernel_rfl
@[simp] theorem td130 : td Try.prog 130 = .func := by kernel_rfl
@[simp] theorem sz130 : sz Try.prog 130 = 1 := by kernel_rfl
@[simp] theorem byt130 : byt Try.prog 130 = 8 := by kernel_rfl
@[simp] theorem zr130 : zr Try.prog 130 = .nilf := by kernel_rfl
@[simp] theorem td131 : td Try.prog 131 = .func := by kernel_rfl
@[simp] theorem sz131 : sz Try.prog 131 = 1 := by kernel_rfl
@[simp] theorem byt131 : byt Try.prog 131 = 8 := by kernel_rfl
@[simp] theorem zr131 : zr Try.prog 131 = .nilf := by kernel_rfl
@[simp] theorem td132 : td Try.prog 132 = .func := by kernel_rfl
@[simp] theorem sz132 : sz Try.prog 132 = 1 := by kernel_rfl
@[simp] theorem byt132 : byt Try.prog 132 = 8 := by kernel_rfl
@[simp] theorem zr132 : zr Try.prog 132 = .nilf := by kernel_rfl
@[simp] theorem td133 : td Try.prog 133 = .func := by kernel_rfl
@[simp] theorem sz133 : sz Try.prog 133 = 1 := by kernel_rfl
@[simp] theorem byt133 : byt Try.prog 133 = 8 := by kernel_rfl
@[simp] theorem zr133 : zr Try.prog 133 = .nilf := by kernel_rfl
@[simp] theorem td135 : td Try.prog 135 = .func := by kernel_rfl
@[simp] theorem sz135 : sz Try.prog 135 = 1 := by kernel_rfl
@[simp] theorem byt135 : byt Try.prog 135 = 8 := by kernel_rfl
@[simp] theorem zr135 : zr Try.prog 135 = .nilf := by kernel_rfl
@[simp] theorem td136 : td Try.prog 136 = .func := by kernel_rfl
@[simp] theorem sz136 : sz Try.prog 136 = 1 := by kernel_rfl
@[simp] theorem byt136 : byt Try.prog 136 = 8 := by kernel_rfl
@[simp] theorem zr136 : zr Try.prog 136 = .nilf := by kernel_rfl
@[simp] theorem td137 : td Try.prog 137 = .int .i64 := by kernel_rfl
@[simp] theorem sz137 : sz Try.prog 137 = 1 := by kernel_rfl
@[simp] theorem byt137 : byt Try.prog 137 = 8 := by kernel_rfl
@[simp] theorem zr137 : zr Try.prog 137 = .int .i64 0 := by kernel_rfl
@[simp] theorem td138 : td Try.prog 138 = .func := by kernel_rfl
@[simp] theorem sz138 : sz Try.prog 138 = 1 := by kernel_rfl
@[simp] theorem byt138 : byt Try.prog 138 = 8 := by kernel_rfl
@[simp] theorem zr138 : zr Try.prog 138 = .nilf := by kernel_rfl
@[simp] theorem td139 : td Try.prog 139 = .func := by kernel_rfl
@[simp] theorem sz139 : sz Try.prog 139 = 1 := by kernel_rfl
@[simp] theorem byt139 : byt Try.prog 139 = 8 := by kernel_rfl
@[simp] theorem zr139 : zr Try.prog 139 = .nilf := by kernel_rfl
@[simp] theorem td140 : td Try.prog 140 = .array 16 5 := by kernel_rfl
@[simp] theorem sz140 : sz Try.prog 140 = 16 := by kernel_rfl
@[simp] theorem byt140 : byt Try.prog 140 = 16 := by kernel_rfl
@[simp] theorem zr140 : zr Try.prog 140 = .agg ([.int .u8 0, .int .u8 0, .int .u8 0, .int .u8 0, .int .u8 0, .int .u8 0, .int .u8 0, .int .u8 0, .int .u8 0, .int .u8 0, .int .u8 0, .int .u8 0, .int .u8 0, .int .u8 0, .int .u8 0, .int .u8 0]) := by kernel_rfl
@[simp] theorem fl140 : flatT Try.prog 140 = some ([false, false, false, false, false, false, false, false, false, false, false, false, false, false, false, false]) := by kernel_rfl
@[simp] theorem td142 : td Try.prog 142 = .func := by kernel_rfl
@[simp] theorem sz142 : sz Try.prog 142 = 1 := by kernel_rfl
@[simp] theorem byt142 : byt Try.prog 142 = 8 := by kernel_rfl
@[simp] theorem zr142 : zr Try.prog 142 = .nilf := by kernel_rfl
@[simp] theorem td143 : td Try.prog 143 = .func := by kernel_rfl
@[simp] theorem sz143 : sz Try.prog 143 = 1 := by kernel_rfl
@[simp] theorem byt143 : byt Try.prog 143 = 8 := by kernel_rfl
@[simp] theorem zr143 : zr Try.prog 143 = .nilf := by kernel_rfl
@[simp] theorem td145 : td Try.prog 145 = .func := by kernel_rfl
@[simp] theorem sz145 : sz Try.prog 145 = 1 := by kernel_rfl
@[simp] theorem byt145 : byt Try.prog 145 = 8 := by kernel_rfl
@[simp] theorem zr145 : zr Try.prog 145 = .nilf := by kernel_rfl
@[simp] theorem td146 : td Try.prog 146 = .func := by kernel_rfl
@[simp] theorem sz146 : sz Try.prog 146 = 1 := by kernel_rfl
@[simp] theorem byt146 : byt Try.prog 146 = 8 := by kernel_rfl
@[simp] theorem zr146 : zr Try.prog 146 = .nilf := by kernel_rfl
@[simp] theorem td147 : td Try.prog 147 = .struct [(0, 9), (1, 3), (2, 3), (3, 4)] := by kernel_rfl
@[simp] theorem sz147 : sz Try.prog 147 = 4 := by kernel_rfl
@[simp] theorem byt147 : byt Try.prog 147 = 40 := by kernel_rfl
@[simp] theorem zr147 : zr Try.prog 147 = .agg ([.str ByteArray.empty, .int .i64 0, .int .i64 0, .bool false]) := by kernel_rfl
@[simp] theorem td148 : td Try.prog 148 = .struct [(0, 9), (1, 3), (2, 3), (3, 4)] := by kernel_rfl
@[simp] theorem sz148 : sz Try.prog 148 = 4 := by kernel_rfl
@[simp] theorem byt148 : byt Try.prog 148 = 40 := by kernel_rfl
@[simp] theorem zr148 : zr Try.prog 148 = .agg ([.str ByteArray.empty, .int .i64 0, .int .i64 0, .bool false]) := by kernel_rfl
@[simp] theorem td149 : td Try.prog 149 = .func := by kernel_rfl
@[simp] theorem sz149 : sz Try.prog 149 = 1 := by kernel_rfl
@[simp] theorem byt149 : byt Try.prog 149 = 8 := by kernel_rfl
@[simp] theorem zr149 : zr Try.prog 149 = .nilf := by kernel_rfl
@[simp] theorem td151 : td Try.prog 151 = .func := by kernel_rfl
@[simp] theorem sz151 : sz Try.prog 151 = 1 := by kernel_rfl
@[simp] theorem byt151 : byt Try.prog 151 = 8 := by kernel_rfl
@[simp] theorem zr151 : zr Try.prog 151 = .nilf := by kernel_rfl
@[simp] theorem td152 : td Try.prog 152 = .array 24 148 := by kernel_rfl
@[simp] theorem sz152 : sz Try.prog 152 = 96 := by kernel_rfl
@[simp] theorem byt152 : byt Try.prog 152 = 960 := by kernel_rfl
@[simp] theorem zr152 : zr Try.prog 152 = .agg ([.str ByteArray.empty, .int .i64 0, .int .i64 0, .bool false, .str ByteArray.empty, .int .i64 0, .int .i64 0, .bool false, .str ByteArray.empty, .int .i64 0, .int .i64 0, .bool false, .str ByteArray.empty, .int .i64 0, .int .i64 0, .bool false, .str ByteArray.empty, .int .i64 0, .int .i64 0, .bool false, .str ByteArray.empty, .int .i64 0, .int .i64 0, .bool false, .str ByteArray.empty, .int .i64 0, .int .i64 0, .bool false, .str ByteArray.empty, .int .i64 0, .int .i64 0, .bool false, .str ByteArray.empty, .int .i64 0, .int .i64 0, .bool false, .str ByteArray.empty, .int .i64 0, .int .i64 0, .bool false, .str ByteArray.empty, .int .i64 0, .int .i64 0, .bool false, .str ByteArray.empty, .int .i64 0, .int .i64 0, .bool false, .str ByteArray.empty, .int .i64 0, .int .i64 0, .bool false, .str ByteArray.empty, .int .i64 0, .int .i64 0, .bool false, .str ByteArray.empty, .int .i64 0, .int .i64 0, .bool false, .str ByteArray.empty, .int .i64 0, .int .i64 0, .bool false, .str ByteArray.empty, .int .i64 0, .int .i64 0, .bool false, .str ByteArray.empty, .int .i64 0, .int .i64 0, .bool false, .str ByteArray.empty, .int .i64 0, .int .i64 0, .bool false, .str ByteArray.empty, .int .i64 0, .int .i64 0, .bool false, .str ByteArray.empty, .int .i64 0, .int .i64 0, .bool false, .str ByteArray.empty, .int .i64 0, .int .i64 0, .bool false, .str ByteArray.empty, .int .i64 0, .int .i64 0, .bool false, .str ByteArray.empty, .int .i64 0, .int .i64 0, .bool false]) := by kernel_rfl
@[simp] theorem td153 : td Try.prog 153 = .func := by kernel_rfl
@[simp] theorem sz153 : sz Try.prog 153 = 1 := by kernel_rfl
@[simp] theorem byt153 : byt Try.prog 153 = 8 := by kernel_rfl
@[simp] theorem zr153 : zr Try.prog 153 = .nilf := by kernel_rfl
@[simp] theorem td154 : td Try.prog 154 = .func := by kernel_rfl
@[simp] theorem sz154 : sz Try.prog 154 = 1 := by kernel_rfl
@[simp] theorem byt154 : byt Try.prog 154 = 8 := by kernel_rfl
@[simp] theorem zr154 : zr Try.prog 154 = .nilf := by kernel_rfl
@[simp] theorem td155 : td Try.prog 155 = .func := by kernel_rfl
@[simp] theorem sz155 : sz Try.prog 155 = 1 := by kernel_rfl
@[simp] theorem byt155 : byt Try.prog 155 = 8 := by kernel_rfl
@[simp] theorem zr155 : zr Try.prog 155 = .nilf := by kernel_rfl
@[simp] theorem td156 : td Try.prog 156 = .func := by kernel_rfl
@[simp] theorem sz156 : sz Try.prog 156 = 1 := by kernel_rfl
@[simp] theorem byt156 : byt Try.prog 156 = 8 := by kernel_rfl
@[simp] theorem zr156 : zr Try.prog 156 = .nilf := by kernel_rfl
@[simp] theorem td157 : td Try.prog 157 = .struct [(0, 17), (1, 17), (2, 17), (3, 9)] := by kernel_rfl
@[simp] theorem sz157 : sz Try.prog 157 = 4 := by kernel_rfl
@[simp] theorem byt157 : byt Try.prog 157 = 40 := by kernel_rfl
@[simp] theorem zr157 : zr Try.prog 157 = .agg ([.nilp, .nilp, .nilp, .str ByteArray.empty]) := by kernel_rfl
@[simp] theorem td158 : td Try.prog 158 = .struct [(0, 17), (1, 17), (2, 17), (3, 9)] := by kernel_rfl
@[simp] theorem sz158 : sz Try.prog 158 = 4 := by kernel_rfl
@[simp] theorem byt158 : byt Try.prog 158 = 40 := by kernel_rfl
@[simp] theorem zr158 : zr Try.prog 158 = .agg ([.nilp, .nilp, .nilp, .str ByteArray.empty]) := by kernel_rfl
@[simp] theorem td159 : td Try.prog 159 = .array 0 16 := by kernel_rfl
@[simp] theorem sz159 : sz Try.prog 159 = 0 := by kernel_rfl
@[simp] theorem byt159 : byt Try.prog 159 = 0 := by kernel_rfl
@[simp] theorem zr159 : zr Try.prog 159 = .agg ([]) := by kernel_rfl
@[simp] theorem td160 : td Try.prog 160 = .struct [(0, 159)] := by kernel_rfl
@[simp] theorem sz160 : sz Try.prog 160 = 0 := by kernel_rfl
@[simp] theorem byt160 : byt Try.prog 160 = 0 := by kernel_rfl
@[simp] theorem zr160 : zr Try.prog 160 = .agg ([]) := by kernel_rfl
@[simp] theorem td161 : td Try.prog 161 = .struct [(0, 159)] := by kernel_rfl
@[simp] theorem sz161 : sz Try.prog 161 = 0 := by kernel_rfl
@[simp] theorem byt161 : byt Try.prog 161 = 0 := by kernel_rfl
@[simp] theorem zr161 : zr Try.prog 161 = .agg ([]) := by kernel_rfl
@[simp] theorem td162 : td Try.prog 162 = .func := by kernel_rfl
@[simp] theorem sz162 : sz Try.prog 162 = 1 := by kernel_rfl
@[simp] theorem byt162 : byt Try.prog 162 = 8 := by kernel_rfl
@[simp] theorem zr162 : zr Try.prog 162 = .nilf := by kernel_rfl
@[simp] theorem td163 : td Try.prog 163 = .int .u32 := by kernel_rfl
@[simp] theorem sz163 : sz Try.prog 163 = 1 := by kernel_rfl
@[simp] theorem byt163 : byt Try.prog 163 = 4 := by kernel_rfl
@[simp] theorem zr163 : zr Try.prog 163 = .int .u32 0 := by kernel_rfl
@[simp] theorem td164 : td Try.prog 164 = .int .u8 := by kernel_rfl
@[simp] theorem sz164 : sz Try.prog 164 = 1 := by kernel_rfl
@[simp] theorem byt164 : byt Try.prog 164 = 1 := by kernel_rfl
@[simp] theorem zr164 : zr Try.prog 164 = .int .u8 0 := by kernel_rfl
@[simp] theorem td165 : td Try.prog 165 = .int .u8 := by kernel_rfl
@[simp] theorem sz165 : sz Try.prog 165 = 1 := by kernel_rfl
@[simp] theorem byt165 : byt Try.prog 165 = 1 := by kernel_rfl
@[simp] theorem zr165 : zr Try.prog 165 = .int .u8 0 := by kernel_rfl
@[simp] theorem td166 : td Try.prog 166 = .func := by kernel_rfl
@[simp] theorem sz166 : sz Try.prog 166 = 1 := by kernel_rfl
@[simp] theorem byt166 : byt Try.prog 166 = 8 := by kernel_rfl
@[simp] theorem zr166 : zr Try.prog 166 = .nilf := by kernel_rfl
@[simp] theorem td167 : td Try.prog 167 = .ptr 5 := by kernel_rfl
@[simp] theorem sz167 : sz Try.prog 167 = 1 := by kernel_rfl
@[simp] theorem byt167 : byt Try.prog 167 = 8 := by kernel_rfl
@[simp] theorem zr167 : zr Try.prog 167 = .nilp := by kernel_rfl
@[simp] theorem td168 : td Try.prog 168 = .int .i32 := by kernel_rfl
@[simp] theorem sz168 : sz Try.prog 168 = 1 := by kernel_rfl
@[simp] theorem byt168 : byt Try.prog 168 = 4 := by kernel_rfl
@[simp] theorem zr168 : zr Try.prog 168 = .int .i32 0 := by kernel_rfl
@[simp] theorem td169 : td Try.prog 169 = .int .i32 := by kernel_rfl
@[simp] theorem sz169 : sz Try.prog 169 = 1 := by kernel_rfl
@[simp] theorem byt169 : byt Try.prog 169 = 4 := by kernel_rfl
@[simp] theorem zr169 : zr Try.prog 169 = .int .i32 0 := by kernel_rfl
@[simp] theorem td170 : td Try.prog 170 = .struct [(0, 12), (1, 12), (2, 163), (3, 164), (4, 5), (5, 5), (6, 165), (7, 166), (8, 167), (9, 168), (10, 169)] := by kernel_rfl
@[simp] theorem sz170 : sz Try.prog 170 = 11 := by kernel_rfl
@[simp] theorem byt170 : byt Try.prog 170 = 48 := by kernel_rfl
@[simp] theorem zr170 : zr Try.prog 170 = .agg ([.int .u64 0, .int .u64 0, .int .u32 0, .int .u8 0, .int .u8 0, .int .u8 0, .int .u8 0, .nilf, .nilp, .int .i32 0, .int .i32 0]) := by kernel_rfl
@[simp] theorem td171 : td Try.prog 171 = .struct [(0, 12), (1, 12), (2, 163), (3, 164), (4, 5), (5, 5), (6, 165), (7, 166), (8, 167), (9, 168), (10, 169)] := by kernel_rfl
@[simp] theorem sz171 : sz Try.prog 171 = 11 := by kernel_rfl
@[simp] theorem byt171 : byt Try.prog 171 = 48 := by kernel_rfl
@[simp] theorem zr171 : zr Try.prog 171 = .agg ([.int .u64 0, .int .u64 0, .int .u32 0, .int .u8 0, .int .u8 0, .int .u8 0, .int .u8 0, .nilf, .nilp, .int .i32 0, .int .i32 0]) := by kernel_rfl
end Go.Proofs.Yteonfhnljphbpaa
end

section
set_option linter.unusedVariables false
set_option linter.unusedSimpArgs false
set_option maxRecDepth 4000
namespace Go.Proofs.Yteonfhnljphbpaa
open Go Go.AI Go.Proofs

theorem cellsOf_sz (t : TypeId) : Try.prog.cellsOf t = sz Try.prog t := rfl
section
variable {H : Type} {enc : TypeId × Value → H} {w : World} {sp : Nat → Bool} {held : Bool}
theorem rdWide : Rd enc Try.prog w sp held 39 Wide.enc := by
  intro fuel cs x h
  obtain ⟨hl, fuel', hf⟩ := trod_struct Try.underlying39 h
  simp only [cellsOf_sz, sz39] at hl
  simp only [List.mem_cons, List.not_mem_nil, or_false, forall_eq_or_imp, forall_eq, cellsOf_sz, sz37] at hf
  match cs, hl, hf with
  | [c0, c1], _, ⟨⟨y0, h0⟩, ⟨y1, h1⟩⟩ =>
    obtain ⟨b0, e0⟩ := rd_u64 Try.underlying37 h0
    obtain ⟨b1, e1⟩ := rd_u64 Try.underlying37 h1
    simp at e0 e1
    subst e0 e1
    exact ⟨⟨b0, b1⟩, by simp [Wide.enc, RelL, Rel], by simp [Ones, Value.oneCell']⟩
theorem rdOxm : Rd enc Try.prog w sp held 41 Oxm.enc := by
  intro fuel cs x h
  obtain ⟨hl, fuel', hf⟩ := trod_struct Try.underlying41 h
  simp only [cellsOf_sz, sz41] at hl
  simp only [List.mem_cons, List.not_mem_nil, or_false, forall_eq_or_imp, forall_eq, cellsOf_sz, sz39, sz3, sz4] at hf
  match cs, hl, hf with
  | [c0, c1, c2, c3, c4, c5], _, ⟨⟨y0, h0⟩, ⟨y1, h1⟩, ⟨y2, h2⟩, ⟨y3, h3⟩⟩ =>
    obtain ⟨n, e0⟩ := rd_int Try.underlying3 h0
    obtain ⟨b, e1⟩ := trod_bool Try.underlying4 h1
    obtain ⟨v, r2, o2⟩ := rdWide fuel' _ y2 h2
    obtain ⟨m, r3, o3⟩ := rdWide fuel' _ y3 h3
    simp at e0 e1
    subst e0 e1
    exact ⟨⟨n, b, v, m⟩, RelL.cons (by simp [Rel]) (RelL.cons (by simp [Rel]) (r2.append r3)), (Ones.append (vs := [_, _]) (by simp [Ones, Value.oneCell']) (o2.append o3))⟩
theorem rdAction : Rd enc Try.prog w sp held 43 Action.enc := by
  intro fuel cs x h
  obtain ⟨hl, fuel', hf⟩ := trod_struct Try.underlying43 h
  simp only [cellsOf_sz, sz43] at hl
  simp only [List.mem_cons, List.not_mem_nil, or_false, forall_eq_or_imp, forall_eq, cellsOf_sz, sz41, sz3] at hf
  match cs, hl, hf with
  | [c0, c1, c2, c3, c4, c5, c6, c7, c8, c9, c10], _, ⟨⟨y0, h0⟩, ⟨y1, h1⟩, ⟨y2, h2⟩, ⟨y3, h3⟩, ⟨y4, h4⟩, ⟨y5, h5⟩⟩ =>
    obtain ⟨n0, e0⟩ := rd_int Try.underlying3 h0
    obtain ⟨n1, e1⟩ := rd_int Try.underlying3 h1
    obtain ⟨n2, e2⟩ := rd_int Try.underlying3 h2
    obtain ⟨n3, e3⟩ := rd_int Try.underlying3 h3
    obtain ⟨n4, e4⟩ := rd_int Try.underlying3 h4
    obtain ⟨o, r5, o5⟩ := rdOxm fuel' _ y5 h5
    simp at e0 e1 e2 e3 e4
    subst e0 e1 e2 e3 e4
    exact ⟨⟨n0, n1, n2, n3, n4, o⟩, RelL.cons (by simp [Rel]) (RelL.cons (by simp [Rel]) (RelL.cons (by simp [Rel]) (RelL.cons (by simp [Rel]) (RelL.cons (by simp [Rel]) r5)))), (Ones.append (vs := [_, _, _, _, _]) (by simp [Ones, Value.oneCell']) o5)⟩
theorem one_of_sl {f : Bool} {n : Nat} {cs : List AV} {E : Env} {G : Heap} {v : Value} (h : Rel E G (.sl f n cs) v) : v.oneCell' = true := by
  simp only [Rel] at h
  rcases h with ⟨a, cap, rfl, _⟩ | ⟨_, _, _, _, rfl, _⟩ <;> rfl
theorem rdInst : Rd enc Try.prog w sp held 69 Inst.enc := by
  intro fuel cs x h
  obtain ⟨hl, fuel', hf⟩ := trod_struct Try.underlying69 h
  simp only [cellsOf_sz, sz69] at hl
  simp only [List.mem_cons, List.not_mem_nil, or_false, forall_eq_or_imp, forall_eq, cellsOf_sz, sz39, sz3, sz24] at hf
  match cs, hl, hf with
  | [c0, c1, c2, c3, c4, c5, c6], _, ⟨⟨y0, h0⟩, ⟨y1, h1⟩, ⟨y2, h2⟩, ⟨y3, h3⟩, ⟨y4, h4⟩⟩ =>
    obtain ⟨n0, e0⟩ := rd_int Try.underlying3 h0
    obtain ⟨n1, e1⟩ := rd_int Try.underlying3 h1
    obtain ⟨v, r2, o2⟩ := rdWide fuel' _ y2 h2
    obtain ⟨m, r3, o3⟩ := rdWide fuel' _ y3 h3
    obtain ⟨l, u, e4, r4⟩ := rd_slice (s := 11) (f := Action.enc) Try.underlying24 (by kernel_rfl) (by omega) Action.len rdAction h4
    simp at e0 e1 e4
    subst e0 e1 e4
    exact ⟨⟨n0, n1, v, m, l⟩, RelL.cons (by simp [Rel]) (RelL.cons (by simp [Rel]) (r2.append (r3.append (RelL.cons r4 RelL.nil)))),
      (Ones.append (vs := [_, _]) (by simp [Ones, Value.oneCell']) (o2.append (o3.append (Ones.single (one_of_sl r4)))))⟩
end
end Go.Proofs.Yteonfhnljphbpaa
end

section
set_option linter.unusedVariables false
set_option linter.unusedSimpArgs false
namespace Go.Proofs.Yteonfhnljphbpaa
open Go Go.AI Go.Proofs Go.Proofs.Yteonfhnljphbpaa
theorem law_own : ownKnob Try.prog.godebug = none := by kernel_rfl
theorem law_laid : laidOutB Try.prog = true := by kernel_rfl
def zeroCells (n : Nat) : Array Value := (List.replicate n (Value.int .u64 0)).toArray
end Go.Proofs.Yteonfhnljphbpaa
end

section
set_option linter.unusedVariables false
set_option linter.unusedSimpArgs false
namespace Go.Proofs.Yteonfhnljphbpaa
open Go Go.AI Go.Proofs

theorem less_c (a b : Wide) : FnP Try.prog 115 [.agg a.enc, .agg b.enc] (.agg (a.less b).enc) := by
  refine FnP.intro Try.func115 rfl rfl fun G w => ?_
  repeat (first | refine WK.seq ?_ | refine WK.block ?_ | refine WK.inBlock ?_ | refine WK.skip ?_ | refine WK.label ?_ | refine WK.scope ?_ | refine WK.inScope ?_ | refine WK.exit rfl ?_)
  first | refine WK.reg 100 Try.ntmps115 (by kernel_rfl) ?_ | refine WK.regD 100 clsOf (by kernel_rfl) Try.ntmps115 (by kernel_rfl) (by kernel_rfl) ?_
  intro A hA Q hQ
  simp
  refine hQ _ _ ?_
  clear hQ hA
  repeat (first | refine WK.seq ?_ | refine WK.block ?_ | refine WK.inBlock ?_ | refine WK.skip ?_ | refine WK.label ?_ | refine WK.scope ?_ | refine WK.inScope ?_ | refine WK.exit rfl ?_)
  first | refine WK.reg 200 Try.ntmps115 (by kernel_rfl) ?_ | refine WK.regD 200 clsOf (by kernel_rfl) Try.ntmps115 (by kernel_rfl) (by kernel_rfl) ?_
  intro A hA Q hQ
  simp [Wide.enc]
  refine hQ _ _ ?_
  clear hQ hA
  repeat (first | refine WK.seq ?_ | refine WK.block ?_ | refine WK.inBlock ?_ | refine WK.skip ?_ | refine WK.label ?_ | refine WK.scope ?_ | refine WK.inScope ?_ | refine WK.exit rfl ?_)
  refine WK.ret Try.func115 (by simp (maxDischargeDepth := 120) [Try.results115, Wide.enc, Wide.less]) (by simp [Wide.enc, Wide.less])
theorem zero_c (a : Wide) : FnP Try.prog 114 [.agg a.enc] (.bool a.zero) := by
  refine FnP.intro Try.func114 rfl rfl fun G w => ?_
  repeat (first | refine WK.seq ?_ | refine WK.block ?_ | refine WK.inBlock ?_ | refine WK.skip ?_ | refine WK.label ?_ | refine WK.scope ?_ | refine WK.inScope ?_ | refine WK.exit rfl ?_)
  first | refine WK.reg 100 Try.ntmps114 (by kernel_rfl) ?_ | refine WK.regD 100 clsOf (by kernel_rfl) Try.ntmps114 (by kernel_rfl) (by kernel_rfl) ?_
  intro A hA Q hQ
  simp
  refine hQ _ _ ?_
  clear hQ hA
  repeat (first | refine WK.seq ?_ | refine WK.block ?_ | refine WK.inBlock ?_ | refine WK.skip ?_ | refine WK.label ?_ | refine WK.scope ?_ | refine WK.inScope ?_ | refine WK.exit rfl ?_)
  first | refine WK.reg 200 Try.ntmps114 (by kernel_rfl) ?_ | refine WK.regD 200 clsOf (by kernel_rfl) Try.ntmps114 (by kernel_rfl) (by kernel_rfl) ?_
  intro A hA Q hQ
  simp [Wide.enc]
  refine hQ _ _ ?_
  clear hQ hA
  repeat (first | refine WK.seq ?_ | refine WK.block ?_ | refine WK.inBlock ?_ | refine WK.skip ?_ | refine WK.label ?_ | refine WK.scope ?_ | refine WK.inScope ?_ | refine WK.exit rfl ?_)
  refine WK.ret Try.func114 (by simp (maxDischargeDepth := 120) [Try.results114, Wide.zero]) (by simp [Wide.zero])
end Go.Proofs.Yteonfhnljphbpaa
end

section
set_option linter.unusedVariables false
set_option linter.unusedSimpArgs false
namespace Go.Proofs.Yteonfhnljphbpaa
open Go Go.AI Go.Proofs

theorem fright_c (f : Int) : FnP Try.prog 124 [.int .i64 f] (.bool (fRight f)) := by
  cases h : decide (f ≥ 0)
  all_goals
    refine FnP.intro Try.func124 rfl rfl fun G w => ?_
    repeat (first | refine WK.seq ?_ | refine WK.block ?_ | refine WK.inBlock ?_ | refine WK.skip ?_ | refine WK.label ?_ | refine WK.scope ?_ | refine WK.inScope ?_ | refine WK.exit rfl ?_)
    first | refine WK.reg 100 Try.ntmps124 (by kernel_rfl) ?_ | refine WK.regD 100 clsOf (by kernel_rfl) Try.ntmps124 (by kernel_rfl) (by kernel_rfl) ?_
    intro A hA Q hQ
    simp
    refine hQ _ _ ?_
    clear hQ hA
    repeat (first | refine WK.seq ?_ | refine WK.block ?_ | refine WK.inBlock ?_ | refine WK.skip ?_ | refine WK.label ?_ | refine WK.scope ?_ | refine WK.inScope ?_ | refine WK.exit rfl ?_)
    first | refine WK.reg 200 Try.ntmps124 (by kernel_rfl) ?_ | refine WK.regD 200 clsOf (by kernel_rfl) Try.ntmps124 (by kernel_rfl) (by kernel_rfl) ?_
    intro A hA Q hQ
    have hg2 : (A[2]?).bind (·.dst) = some 5 := by rw [hA]; rfl
    simp [h, hg2]
    refine hQ _ _ ?_
    clear hQ hA
    repeat (first | refine WK.seq ?_ | refine WK.block ?_ | refine WK.inBlock ?_ | refine WK.skip ?_ | refine WK.label ?_ | refine WK.scope ?_ | refine WK.inScope ?_ | refine WK.exit rfl ?_)
    refine WK.ret Try.func124 (by simp (maxDischargeDepth := 120) [Try.results124, fRight, h]) (by simp [fRight, h])
def rowsC : List AV := fRows.flatMap rowEnc
@[simp] theorem rowsC_len : rowsC.length = 96 := rfl
theorem rows_c : FnP Try.prog 155 [] (.agg rowsC) := by
  refine FnP.intro Try.func155 rfl rfl fun G w => ?_
  repeat (first | refine WK.seq ?_ | refine WK.block ?_ | refine WK.inBlock ?_ | refine WK.skip ?_ | refine WK.label ?_ | refine WK.scope ?_ | refine WK.inScope ?_ | refine WK.exit rfl ?_)
  first | refine WK.reg 100 Try.ntmps155 (by kernel_rfl) ?_ | refine WK.regD 100 clsOf (by kernel_rfl) Try.ntmps155 (by kernel_rfl) (by kernel_rfl) ?_
  intro A hA Q hQ
  simp
  refine hQ _ _ ?_
  clear hQ hA
  repeat (first | refine WK.seq ?_ | refine WK.block ?_ | refine WK.inBlock ?_ | refine WK.skip ?_ | refine WK.label ?_ | refine WK.scope ?_ | refine WK.inScope ?_ | refine WK.exit rfl ?_)
  first | refine WK.reg 200 Try.ntmps155 (by kernel_rfl) ?_ | refine WK.regD 200 clsOf (by kernel_rfl) Try.ntmps155 (by kernel_rfl) (by kernel_rfl) ?_
  intro A hA Q hQ
  simp
  refine hQ _ _ ?_
  clear hQ hA
  repeat (first | refine WK.seq ?_ | refine WK.block ?_ | refine WK.inBlock ?_ | refine WK.skip ?_ | refine WK.label ?_ | refine WK.scope ?_ | refine WK.inScope ?_ | refine WK.exit rfl ?_)
  refine WK.ret Try.func155 (by simp (maxDischargeDepth := 120) [Try.results155, rowsC, fRows, rowEnc]) (by simp [rowsC, fRows, rowEnc])
theorem rowEnc_len (r : Int × Int × Bool) : (rowEnc r).length = 4 := rfl
theorem rowEnc_cl (r : Int × Int × Bool) : ClL (rowEnc r) = true := by simp [rowEnc, ClL, Cl]
theorem row_sub (f : Int) (h : 0 ≤ f ∧ f < 24) : (rowsC.drop (f.toNat * 4)).take 4 = rowEnc (fRow f) := by
  unfold rowsC
  rw [fm_nth rowEnc_len _ _ (by show f.toNat < 24; omega)]
  unfold fRow; rw [if_pos h]
theorem fat_c (f : Int) : FnP Try.prog 144 [.int .i64 f] (.agg (rowEnc (fRow f))) := by
  refine FnP.intro Try.func144 rfl rfl fun G w => ?_
  repeat (first | refine WK.seq ?_ | refine WK.block ?_ | refine WK.inBlock ?_ | refine WK.skip ?_ | refine WK.label ?_ | refine WK.scope ?_ | refine WK.inScope ?_ | refine WK.exit rfl ?_)
  first | refine WK.reg 100 Try.ntmps144 (by kernel_rfl) ?_ | refine WK.regD 100 clsOf (by kernel_rfl) Try.ntmps144 (by kernel_rfl) (by kernel_rfl) ?_
  intro A hA Q hQ
  simp
  refine hQ _ _ ?_
  clear hQ hA
  repeat (first | refine WK.seq ?_ | refine WK.block ?_ | refine WK.inBlock ?_ | refine WK.skip ?_ | refine WK.label ?_ | refine WK.scope ?_ | refine WK.inScope ?_ | refine WK.exit rfl ?_)
  first | refine WK.reg 200 Try.ntmps144 (by kernel_rfl) ?_ | refine WK.regD 200 clsOf (by kernel_rfl) Try.ntmps144 (by kernel_rfl) (by kernel_rfl) ?_
  intro A hA Q hQ
  simp
  refine RunQ.call rfl rfl rfl rfl (by rfl) (by simp (maxDischargeDepth := 120)) (fright_c f) (by simp) ?_
  refine RunQ.eval ?_
  simp
  refine hQ _ _ ?_
  clear hQ hA
  repeat (first | refine WK.seq ?_ | refine WK.block ?_ | refine WK.inBlock ?_ | refine WK.skip ?_ | refine WK.label ?_ | refine WK.scope ?_ | refine WK.inScope ?_ | refine WK.exit rfl ?_)
  refine WK.cond2 rfl (fun h => ?_) (fun h => ?_)
  · simp [fRight] at h
    have h2 : fRow f = (-1, 0, false) := by unfold fRow; rw [if_neg (by omega)]
    repeat (first | refine WK.seq ?_ | refine WK.block ?_ | refine WK.inBlock ?_ | refine WK.skip ?_ | refine WK.label ?_ | refine WK.scope ?_ | refine WK.inScope ?_ | refine WK.exit rfl ?_)
    first | refine WK.reg 300 Try.ntmps144 (by kernel_rfl) ?_ | refine WK.regD 300 clsOf (by kernel_rfl) Try.ntmps144 (by kernel_rfl) (by kernel_rfl) ?_
    intro A hA Q hQ
    simp
    refine hQ _ _ ?_
    clear hQ hA
    repeat (first | refine WK.seq ?_ | refine WK.block ?_ | refine WK.inBlock ?_ | refine WK.skip ?_ | refine WK.label ?_ | refine WK.scope ?_ | refine WK.inScope ?_ | refine WK.exit rfl ?_)
    refine WK.ret Try.func144 (by simp (maxDischargeDepth := 120) [Try.results144, h2, rowEnc]) (by simp [h2, rowEnc])
  · simp [fRight] at h
    have h3 : f.toNat * 4 + 4 ≤ 96 := by omega
    repeat (first | refine WK.seq ?_ | refine WK.block ?_ | refine WK.inBlock ?_ | refine WK.skip ?_ | refine WK.label ?_ | refine WK.scope ?_ | refine WK.inScope ?_ | refine WK.exit rfl ?_)
    first | refine WK.reg 400 Try.ntmps144 (by kernel_rfl) ?_ | refine WK.regD 400 clsOf (by kernel_rfl) Try.ntmps144 (by kernel_rfl) (by kernel_rfl) ?_
    intro A hA Q hQ
    simp
    refine RunQ.call rfl rfl rfl rfl (by rfl) (by simp (maxDischargeDepth := 120) [h, h3, row_sub f h, rowEnc_len]) (rows_c) (by simp [h, h3, row_sub f h, rowEnc_len]) ?_
    refine RunQ.eval ?_
    simp [h, h3, row_sub f h, rowEnc_len]
    refine hQ _ _ ?_
    clear hQ hA
    repeat (first | refine WK.seq ?_ | refine WK.block ?_ | refine WK.inBlock ?_ | refine WK.skip ?_ | refine WK.label ?_ | refine WK.scope ?_ | refine WK.inScope ?_ | refine WK.exit rfl ?_)
    refine WK.ret Try.func144 (by simp (maxDischargeDepth := 120) [Try.results144, rowEnc]) (by simp [rowEnc])
theorem fbits_c (f : Int) : FnP Try.prog 147 [.int .i64 f] (.int .i64 (fBits f)) := by
  refine FnP.intro Try.func147 rfl rfl fun G w => ?_
  repeat (first | refine WK.seq ?_ | refine WK.block ?_ | refine WK.inBlock ?_ | refine WK.skip ?_ | refine WK.label ?_ | refine WK.scope ?_ | refine WK.inScope ?_ | refine WK.exit rfl ?_)
  first | refine WK.reg 100 Try.ntmps147 (by kernel_rfl) ?_ | refine WK.regD 100 clsOf (by kernel_rfl) Try.ntmps147 (by kernel_rfl) (by kernel_rfl) ?_
  intro A hA Q hQ
  simp
  refine hQ _ _ ?_
  clear hQ hA
  repeat (first | refine WK.seq ?_ | refine WK.block ?_ | refine WK.inBlock ?_ | refine WK.skip ?_ | refine WK.label ?_ | refine WK.scope ?_ | refine WK.inScope ?_ | refine WK.exit rfl ?_)
  first | refine WK.reg 200 Try.ntmps147 (by kernel_rfl) ?_ | refine WK.regD 200 clsOf (by kernel_rfl) Try.ntmps147 (by kernel_rfl) (by kernel_rfl) ?_
  intro A hA Q hQ
  simp
  refine RunQ.call rfl rfl rfl rfl (by rfl) (by simp (maxDischargeDepth := 120) [rowEnc]) (fat_c f) (by simp [rowEnc]) ?_
  refine RunQ.eval ?_
  simp [rowEnc]
  refine hQ _ _ ?_
  clear hQ hA
  repeat (first | refine WK.seq ?_ | refine WK.block ?_ | refine WK.inBlock ?_ | refine WK.skip ?_ | refine WK.label ?_ | refine WK.scope ?_ | refine WK.inScope ?_ | refine WK.exit rfl ?_)
  refine WK.ret Try.func147 (by simp (maxDischargeDepth := 120) [Try.results147, fBits]) (by simp [fBits])
theorem low1_c (n : Int) : FnP Try.prog 156 [.int .i64 n] (.int .u64 (uI (low64 n))) := by
  refine FnP.intro Try.func156 rfl rfl fun G w => ?_
  repeat (first | refine WK.seq ?_ | refine WK.block ?_ | refine WK.inBlock ?_ | refine WK.skip ?_ | refine WK.label ?_ | refine WK.scope ?_ | refine WK.inScope ?_ | refine WK.exit rfl ?_)
  first | refine WK.reg 100 Try.ntmps156 (by kernel_rfl) ?_ | refine WK.regD 100 clsOf (by kernel_rfl) Try.ntmps156 (by kernel_rfl) (by kernel_rfl) ?_
  intro A hA Q hQ
  simp
  refine hQ _ _ ?_
  clear hQ hA
  repeat (first | refine WK.seq ?_ | refine WK.block ?_ | refine WK.inBlock ?_ | refine WK.skip ?_ | refine WK.label ?_ | refine WK.scope ?_ | refine WK.inScope ?_ | refine WK.exit rfl ?_)
  first | refine WK.reg 200 Try.ntmps156 (by kernel_rfl) ?_ | refine WK.regD 200 clsOf (by kernel_rfl) Try.ntmps156 (by kernel_rfl) (by kernel_rfl) ?_
  intro A hA Q hQ
  simp
  refine hQ _ _ ?_
  clear hQ hA
  repeat (first | refine WK.seq ?_ | refine WK.block ?_ | refine WK.inBlock ?_ | refine WK.skip ?_ | refine WK.label ?_ | refine WK.scope ?_ | refine WK.inScope ?_ | refine WK.exit rfl ?_)
  refine WK.cond2 rfl (fun h => ?_) (fun h => ?_)
  · simp at h
    have e : uI (low64 n) = 18446744073709551615 := by rw [low64_ge h]; exact low64_big
    repeat (first | refine WK.seq ?_ | refine WK.block ?_ | refine WK.inBlock ?_ | refine WK.skip ?_ | refine WK.label ?_ | refine WK.scope ?_ | refine WK.inScope ?_ | refine WK.exit rfl ?_)
    first | refine WK.reg 300 Try.ntmps156 (by kernel_rfl) ?_ | refine WK.regD 300 clsOf (by kernel_rfl) Try.ntmps156 (by kernel_rfl) (by kernel_rfl) ?_
    intro A hA Q hQ
    simp
    refine hQ _ _ ?_
    clear hQ hA
    repeat (first | refine WK.seq ?_ | refine WK.block ?_ | refine WK.inBlock ?_ | refine WK.skip ?_ | refine WK.label ?_ | refine WK.scope ?_ | refine WK.inScope ?_ | refine WK.exit rfl ?_)
    refine WK.ret Try.func156 (by simp (maxDischargeDepth := 120) [Try.results156, e]) (by simp [e])
  · simp at h
    by_cases hn : n < 0
    · have e := low64_small (n := 0) (by omega) (by omega)
      have e2 := low64_neg hn
      repeat (first | refine WK.seq ?_ | refine WK.block ?_ | refine WK.inBlock ?_ | refine WK.skip ?_ | refine WK.label ?_ | refine WK.scope ?_ | refine WK.inScope ?_ | refine WK.exit rfl ?_)
      first | refine WK.reg 400 Try.ntmps156 (by kernel_rfl) ?_ | refine WK.regD 400 clsOf (by kernel_rfl) Try.ntmps156 (by kernel_rfl) (by kernel_rfl) ?_
      intro A hA Q hQ
      simp [hn, e]
      refine hQ _ _ ?_
      clear hQ hA
      repeat (first | refine WK.seq ?_ | refine WK.block ?_ | refine WK.inBlock ?_ | refine WK.skip ?_ | refine WK.label ?_ | refine WK.scope ?_ | refine WK.inScope ?_ | refine WK.exit rfl ?_)
      refine WK.ret Try.func156 (by simp (maxDischargeDepth := 120) [Try.results156, e2]) (by simp [e2])
    · have e := low64_small (n := n) (by omega) h
      repeat (first | refine WK.seq ?_ | refine WK.block ?_ | refine WK.inBlock ?_ | refine WK.skip ?_ | refine WK.label ?_ | refine WK.scope ?_ | refine WK.inScope ?_ | refine WK.exit rfl ?_)
      first | refine WK.reg 500 Try.ntmps156 (by kernel_rfl) ?_ | refine WK.regD 500 clsOf (by kernel_rfl) Try.ntmps156 (by kernel_rfl) (by kernel_rfl) ?_
      intro A hA Q hQ
      simp [hn, e]
      refine hQ _ _ ?_
      clear hQ hA
      repeat (first | refine WK.seq ?_ | refine WK.block ?_ | refine WK.inBlock ?_ | refine WK.skip ?_ | refine WK.label ?_ | refine WK.scope ?_ | refine WK.inScope ?_ | refine WK.exit rfl ?_)
      refine WK.ret Try.func156 (by simp (maxDischargeDepth := 120) [Try.results156]) (by simp)
theorem low_c (n : Int) : FnP Try.prog 146 [.int .i64 n] (.agg (lowW n).enc) := by
  have hc := clamp_le n
  have e : IntKind.i64.wrap (clamp n - 64) = clamp n - 64 := wrap_i64 (by omega) (by omega)
  refine FnP.intro Try.func146 rfl rfl fun G w => ?_
  repeat (first | refine WK.seq ?_ | refine WK.block ?_ | refine WK.inBlock ?_ | refine WK.skip ?_ | refine WK.label ?_ | refine WK.scope ?_ | refine WK.inScope ?_ | refine WK.exit rfl ?_)
  first | refine WK.reg 100 Try.ntmps146 (by kernel_rfl) ?_ | refine WK.regD 100 clsOf (by kernel_rfl) Try.ntmps146 (by kernel_rfl) (by kernel_rfl) ?_
  intro A hA Q hQ
  simp
  refine hQ _ _ ?_
  clear hQ hA
  repeat (first | refine WK.seq ?_ | refine WK.block ?_ | refine WK.inBlock ?_ | refine WK.skip ?_ | refine WK.label ?_ | refine WK.scope ?_ | refine WK.inScope ?_ | refine WK.exit rfl ?_)
  first | refine WK.reg 200 Try.ntmps146 (by kernel_rfl) ?_ | refine WK.regD 200 clsOf (by kernel_rfl) Try.ntmps146 (by kernel_rfl) (by kernel_rfl) ?_
  intro A hA Q hQ
  simp [clamp_eq]
  refine hQ _ _ ?_
  clear hQ hA
  repeat (first | refine WK.seq ?_ | refine WK.block ?_ | refine WK.inBlock ?_ | refine WK.skip ?_ | refine WK.label ?_ | refine WK.scope ?_ | refine WK.inScope ?_ | refine WK.exit rfl ?_)
  first | refine WK.reg 300 Try.ntmps146 (by kernel_rfl) ?_ | refine WK.regD 300 clsOf (by kernel_rfl) Try.ntmps146 (by kernel_rfl) (by kernel_rfl) ?_
  intro A hA Q hQ
  simp [e]
  refine RunQ.call rfl rfl rfl rfl (by rfl) (by simp (maxDischargeDepth := 120)) (low1_c (clamp n - 64)) (by simp) ?_
  refine RunQ.eval ?_
  simp
  refine RunQ.call rfl rfl rfl rfl (by rfl) (by simp (maxDischargeDepth := 120)) (low1_c (clamp n)) (by simp) ?_
  refine RunQ.eval ?_
  simp
  refine hQ _ _ ?_
  clear hQ hA
  repeat (first | refine WK.seq ?_ | refine WK.block ?_ | refine WK.inBlock ?_ | refine WK.skip ?_ | refine WK.label ?_ | refine WK.scope ?_ | refine WK.inScope ?_ | refine WK.exit rfl ?_)
  refine WK.ret Try.func146 (by simp (maxDischargeDepth := 120) [Try.results146, lowW, Wide.enc]) (by simp [lowW, Wide.enc])
end Go.Proofs.Yteonfhnljphbpaa
end
