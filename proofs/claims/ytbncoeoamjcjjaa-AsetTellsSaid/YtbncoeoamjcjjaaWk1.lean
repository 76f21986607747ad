/- The facts of the types of the program that the claim is about: how many cells and bytes a value has, which parts, which zero value, and which values are compared cell by cell. -/
import Derived.Test.YtbncoeoamjcjjaaProg
import Derived.Test.YtbncoeoamjcjjaaDa
import Derived.Test.YtbncoeoamjcjjaaRows
set_option linter.all false
set_option linter.unnecessarySimpa false
section
set_option linter.unusedVariables false
namespace Go.Proofs.Ytbncoeoamjcjjaa
open Go Go.AI Go.Proofs
@[simp] theorem td1 : td Try.prog 1 = .func := by kernel_rfl
@[simp] theorem sz1 : sz Try.prog 1 = 1 := by kernel_rfl
@[simp] theorem byt1 : byt Try.prog 1 = 8 := by kernel_rfl
@[simp] theorem zr1 : zr Try.prog 1 = .nilf := by kernel_rfl
@[simp] theorem td2 : td Try.prog 2 = .int .i64 := by kernel_rfl
@[simp] theorem sz2 : sz Try.prog 2 = 1 := by kernel_rfl
@[simp] theorem byt2 : byt Try.prog 2 = 8 := by kernel_rfl
@[simp] theorem zr2 : zr Try.prog 2 = .int .i64 0 := by kernel_rfl
@[simp] theorem td3 : td Try.prog 3 = .int .i64 := by kernel_rfl
@[simp] theorem sz3 : sz Try.prog 3 = 1 := by kernel_rfl
@[simp] theorem byt3 : byt Try.prog 3 = 8 := by kernel_rfl
@[simp] theorem zr3 : zr Try.prog 3 = .int .i64 0 := by kernel_rfl
@[simp] theorem td4 : td Try.prog 4 = .bool := by kernel_rfl
@[simp] theorem sz4 : sz Try.prog 4 = 1 := by kernel_rfl
@[simp] theorem byt4 : byt Try.prog 4 = 1 := by kernel_rfl
@[simp] theorem zr4 : zr Try.prog 4 = .bool false := by kernel_rfl
@[simp] theorem td5 : td Try.prog 5 = .int .u8 := by kernel_rfl
@[simp] theorem sz5 : sz Try.prog 5 = 1 := by kernel_rfl
@[simp] theorem byt5 : byt Try.prog 5 = 1 := by kernel_rfl
@[simp] theorem zr5 : zr Try.prog 5 = .int .u8 0 := by kernel_rfl
@[simp] theorem td6 : td Try.prog 6 = .int .u8 := by kernel_rfl
@[simp] theorem sz6 : sz Try.prog 6 = 1 := by kernel_rfl
@[simp] theorem byt6 : byt Try.prog 6 = 1 := by kernel_rfl
@[simp] theorem zr6 : zr Try.prog 6 = .int .u8 0 := by kernel_rfl
@[simp] theorem td7 : td Try.prog 7 = .struct [(0, 2), (1, 3), (2, 4), (3, 6)] := by kernel_rfl
@[simp] theorem sz7 : sz Try.prog 7 = 4 := by kernel_rfl
@[simp] theorem byt7 : byt Try.prog 7 = 24 := by kernel_rfl
@[simp] theorem zr7 : zr Try.prog 7 = .agg ([.int .i64 0, .int .i64 0, .bool false, .int .u8 0]) := by kernel_rfl
@[simp] theorem fl7 : flatT Try.prog 7 = some ([false, false, true, false]) := by kernel_rfl
@[simp] theorem td8 : td Try.prog 8 = .struct [(0, 2), (1, 3), (2, 4), (3, 6)] := by kernel_rfl
@[simp] theorem sz8 : sz Try.prog 8 = 4 := by kernel_rfl
@[simp] theorem byt8 : byt Try.prog 8 = 24 := by kernel_rfl
@[simp] theorem zr8 : zr Try.prog 8 = .agg ([.int .i64 0, .int .i64 0, .bool false, .int .u8 0]) := by kernel_rfl
@[simp] theorem fl8 : flatT Try.prog 8 = some ([false, false, true, false]) := by kernel_rfl
@[simp] theorem td9 : td Try.prog 9 = .string := by kernel_rfl
@[simp] theorem sz9 : sz Try.prog 9 = 1 := by kernel_rfl
@[simp] theorem byt9 : byt Try.prog 9 = 16 := by kernel_rfl
@[simp] theorem zr9 : zr Try.prog 9 = .str ByteArray.empty := by kernel_rfl
@[simp] theorem td10 : td Try.prog 10 = .string := by kernel_rfl
@[simp] theorem sz10 : sz Try.prog 10 = 1 := by kernel_rfl
@[simp] theorem byt10 : byt Try.prog 10 = 16 := by kernel_rfl
@[simp] theorem zr10 : zr Try.prog 10 = .str ByteArray.empty := by kernel_rfl
@[simp] theorem td11 : td Try.prog 11 = .string := by kernel_rfl
@[simp] theorem sz11 : sz Try.prog 11 = 1 := by kernel_rfl
@[simp] theorem byt11 : byt Try.prog 11 = 16 := by kernel_rfl
@[simp] theorem zr11 : zr Try.prog 11 = .str ByteArray.empty := by kernel_rfl
@[simp] theorem td12 : td Try.prog 12 = .int .u64 := by kernel_rfl
@[simp] theorem sz12 : sz Try.prog 12 = 1 := by kernel_rfl
@[simp] theorem byt12 : byt Try.prog 12 = 8 := by kernel_rfl
@[simp] theorem zr12 : zr Try.prog 12 = .int .u64 0 := by kernel_rfl
@[simp] theorem td13 : td Try.prog 13 = .struct [(0, 9), (1, 12)] := by kernel_rfl
@[simp] theorem sz13 : sz Try.prog 13 = 2 := by kernel_rfl
@[simp] theorem byt13 : byt Try.prog 13 = 24 := by kernel_rfl
@[simp] theorem zr13 : zr Try.prog 13 = .agg ([.str ByteArray.empty, .int .u64 0]) := by kernel_rfl
@[simp] theorem td14 : td Try.prog 14 = .struct [(0, 9), (1, 12)] := by kernel_rfl
@[simp] theorem sz14 : sz Try.prog 14 = 2 := by kernel_rfl
@[simp] theorem byt14 : byt Try.prog 14 = 24 := by kernel_rfl
@[simp] theorem zr14 : zr Try.prog 14 = .agg ([.str ByteArray.empty, .int .u64 0]) := by kernel_rfl
@[simp] theorem td15 : td Try.prog 15 = .ptr 221 := by kernel_rfl
@[simp] theorem sz15 : sz Try.prog 15 = 1 := by kernel_rfl
@[simp] theorem byt15 : byt Try.prog 15 = 8 := by kernel_rfl
@[simp] theorem zr15 : zr Try.prog 15 = .nilp := by kernel_rfl
@[simp] theorem td16 : td Try.prog 16 = .ptr 224 := by kernel_rfl
@[simp] theorem sz16 : sz Try.prog 16 = 1 := by kernel_rfl
@[simp] theorem byt16 : byt Try.prog 16 = 8 := by kernel_rfl
@[simp] theorem zr16 : zr Try.prog 16 = .nilp := by kernel_rfl
@[simp] theorem td17 : td Try.prog 17 = .ptr 234 := by kernel_rfl
@[simp] theorem sz17 : sz Try.prog 17 = 1 := by kernel_rfl
@[simp] theorem byt17 : byt Try.prog 17 = 8 := by kernel_rfl
@[simp] theorem zr17 : zr Try.prog 17 = .nilp := by kernel_rfl
@[simp] theorem td18 : td Try.prog 18 = .struct [(0, 17)] := by kernel_rfl
@[simp] theorem sz18 : sz Try.prog 18 = 1 := by kernel_rfl
@[simp] theorem byt18 : byt Try.prog 18 = 8 := by kernel_rfl
@[simp] theorem zr18 : zr Try.prog 18 = .agg ([.nilp]) := by kernel_rfl
@[simp] theorem td19 : td Try.prog 19 = .struct [(0, 17)] := by kernel_rfl
@[simp] theorem sz19 : sz Try.prog 19 = 1 := by kernel_rfl
@[simp] theorem byt19 : byt Try.prog 19 = 8 := by kernel_rfl
@[simp] theorem zr19 : zr Try.prog 19 = .agg ([.nilp]) := by kernel_rfl
@[simp] theorem td20 : td Try.prog 20 = .iface true := by kernel_rfl
@[simp] theorem sz20 : sz Try.prog 20 = 1 := by kernel_rfl
@[simp] theorem byt20 : byt Try.prog 20 = 16 := by kernel_rfl
@[simp] theorem zr20 : zr Try.prog 20 = .niface := by kernel_rfl
@[simp] theorem td21 : td Try.prog 21 = .int .i32 := by kernel_rfl
@[simp] theorem sz21 : sz Try.prog 21 = 1 := by kernel_rfl
@[simp] theorem byt21 : byt Try.prog 21 = 4 := by kernel_rfl
@[simp] theorem zr21 : zr Try.prog 21 = .int .i32 0 := by kernel_rfl
@[simp] theorem td22 : td Try.prog 22 = .slice 5 := by kernel_rfl
@[simp] theorem sz22 : sz Try.prog 22 = 1 := by kernel_rfl
@[simp] theorem byt22 : byt Try.prog 22 = 24 := by kernel_rfl
@[simp] theorem zr22 : zr Try.prog 22 = .sl true 0 [] := by kernel_rfl
@[simp] theorem td23 : td Try.prog 23 = .func := by kernel_rfl
@[simp] theorem sz23 : sz Try.prog 23 = 1 := by kernel_rfl
@[simp] theorem byt23 : byt Try.prog 23 = 8 := by kernel_rfl
@[simp] theorem zr23 : zr Try.prog 23 = .nilf := by kernel_rfl
@[simp] theorem td24 : td Try.prog 24 = .int .u64 := by kernel_rfl
@[simp] theorem sz24 : sz Try.prog 24 = 1 := by kernel_rfl
@[simp] theorem byt24 : byt Try.prog 24 = 8 := by kernel_rfl
@[simp] theorem zr24 : zr Try.prog 24 = .int .u64 0 := by kernel_rfl
@[simp] theorem td25 : td Try.prog 25 = .struct [(0, 24), (1, 24)] := by kernel_rfl
@[simp] theorem sz25 : sz Try.prog 25 = 2 := by kernel_rfl
@[simp] theorem byt25 : byt Try.prog 25 = 16 := by kernel_rfl
@[simp] theorem zr25 : zr Try.prog 25 = .agg ([.int .u64 0, .int .u64 0]) := by kernel_rfl
@[simp] theorem fl25 : flatT Try.prog 25 = some ([false, false]) := by kernel_rfl
@[simp] theorem td26 : td Try.prog 26 = .struct [(0, 24), (1, 24)] := by kernel_rfl
@[simp] theorem sz26 : sz Try.prog 26 = 2 := by kernel_rfl
@[simp] theorem byt26 : byt Try.prog 26 = 16 := by kernel_rfl
@[simp] theorem zr26 : zr Try.prog 26 = .agg ([.int .u64 0, .int .u64 0]) := by kernel_rfl
@[simp] theorem fl26 : flatT Try.prog 26 = some ([false, false]) := by kernel_rfl
@[simp] theorem td27 : td Try.prog 27 = .struct [(0, 3), (1, 4), (2, 26), (4, 26)] := by kernel_rfl
@[simp] theorem sz27 : sz Try.prog 27 = 6 := by kernel_rfl
@[simp] theorem byt27 : byt Try.prog 27 = 48 := by kernel_rfl
@[simp] theorem zr27 : zr Try.prog 27 = .agg ([.int .i64 0, .bool false, .int .u64 0, .int .u64 0, .int .u64 0, .int .u64 0]) := by kernel_rfl
@[simp] theorem fl27 : flatT Try.prog 27 = some ([false, true, false, false, false, false]) := by kernel_rfl
@[simp] theorem td28 : td Try.prog 28 = .struct [(0, 3), (1, 4), (2, 26), (4, 26)] := by kernel_rfl
@[simp] theorem sz28 : sz Try.prog 28 = 6 := by kernel_rfl
@[simp] theorem byt28 : byt Try.prog 28 = 48 := by kernel_rfl
@[simp] theorem zr28 : zr Try.prog 28 = .agg ([.int .i64 0, .bool false, .int .u64 0, .int .u64 0, .int .u64 0, .int .u64 0]) := by kernel_rfl
@[simp] theorem fl28 : flatT Try.prog 28 = some ([false, true, false, false, false, false]) := by kernel_rfl
@[simp] theorem td29 : td Try.prog 29 = .struct [(0, 3), (1, 3), (2, 3), (3, 3), (4, 3), (5, 28)] := by kernel_rfl
@[simp] theorem sz29 : sz Try.prog 29 = 11 := by kernel_rfl
@[simp] theorem byt29 : byt Try.prog 29 = 88 := by kernel_rfl
@[simp] theorem zr29 : zr Try.prog 29 = .agg ([.int .i64 0, .int .i64 0, .int .i64 0, .int .i64 0, .int .i64 0, .int .i64 0, .bool false, .int .u64 0, .int .u64 0, .int .u64 0, .int .u64 0]) := by kernel_rfl
@[simp] theorem fl29 : flatT Try.prog 29 = some ([false, false, false, false, false, false, true, false, false, false, false]) := by kernel_rfl
@[simp] theorem td30 : td Try.prog 30 = .struct [(0, 3), (1, 3), (2, 3), (3, 3), (4, 3), (5, 28)] := by kernel_rfl
@[simp] theorem sz30 : sz Try.prog 30 = 11 := by kernel_rfl
@[simp] theorem byt30 : byt Try.prog 30 = 88 := by kernel_rfl
@[simp] theorem zr30 : zr Try.prog 30 = .agg ([.int .i64 0, .int .i64 0, .int .i64 0, .int .i64 0, .int .i64 0, .int .i64 0, .bool false, .int .u64 0, .int .u64 0, .int .u64 0, .int .u64 0]) := by kernel_rfl
@[simp] theorem fl30 : flatT Try.prog 30 = some ([false, false, false, false, false, false, true, false, false, false, false]) := by kernel_rfl
@[simp] theorem td31 : td Try.prog 31 = .struct [(0, 4), (1, 3), (2, 3)] := by kernel_rfl
@[simp] theorem sz31 : sz Try.prog 31 = 3 := by kernel_rfl
@[simp] theorem byt31 : byt Try.prog 31 = 24 := by kernel_rfl
@[simp] theorem zr31 : zr Try.prog 31 = .agg ([.bool false, .int .i64 0, .int .i64 0]) := by kernel_rfl
@[simp] theorem fl31 : flatT Try.prog 31 = some ([true, false, false]) := by kernel_rfl
@[simp] theorem td32 : td Try.prog 32 = .struct [(0, 4), (1, 3), (2, 3)] := by kernel_rfl
@[simp] theorem sz32 : sz Try.prog 32 = 3 := by kernel_rfl
@[simp] theorem byt32 : byt Try.prog 32 = 24 := by kernel_rfl
@[simp] theorem zr32 : zr Try.prog 32 = .agg ([.bool false, .int .i64 0, .int .i64 0]) := by kernel_rfl
@[simp] theorem fl32 : flatT Try.prog 32 = some ([true, false, false]) := by kernel_rfl
@[simp] theorem td34 : td Try.prog 34 = .func := by kernel_rfl
@[simp] theorem sz34 : sz Try.prog 34 = 1 := by kernel_rfl
@[simp] theorem byt34 : byt Try.prog 34 = 8 := by kernel_rfl
@[simp] theorem zr34 : zr Try.prog 34 = .nilf := by kernel_rfl
@[simp] theorem td35 : td Try.prog 35 = .func := by kernel_rfl
@[simp] theorem sz35 : sz Try.prog 35 = 1 := by kernel_rfl
@[simp] theorem byt35 : byt Try.prog 35 = 8 := by kernel_rfl
@[simp] theorem zr35 : zr Try.prog 35 = .nilf := by kernel_rfl
@[simp] theorem td36 : td Try.prog 36 = .slice 30 := by kernel_rfl
@[simp] theorem sz36 : sz Try.prog 36 = 1 := by kernel_rfl
@[simp] theorem byt36 : byt Try.prog 36 = 24 := by kernel_rfl
@[simp] theorem zr36 : zr Try.prog 36 = .sl true 0 [] := by kernel_rfl
@[simp] theorem td37 : td Try.prog 37 = .func := by kernel_rfl
@[simp] theorem sz37 : sz Try.prog 37 = 1 := by kernel_rfl
@[simp] theorem byt37 : byt Try.prog 37 = 8 := by kernel_rfl
@[simp] theorem zr37 : zr Try.prog 37 = .nilf := by kernel_rfl
@[simp] theorem td38 : td Try.prog 38 = .func := by kernel_rfl
@[simp] theorem sz38 : sz Try.prog 38 = 1 := by kernel_rfl
@[simp] theorem byt38 : byt Try.prog 38 = 8 := by kernel_rfl
@[simp] theorem zr38 : zr Try.prog 38 = .nilf := by kernel_rfl
@[simp] theorem td39 : td Try.prog 39 = .func := by kernel_rfl
@[simp] theorem sz39 : sz Try.prog 39 = 1 := by kernel_rfl
@[simp] theorem byt39 : byt Try.prog 39 = 8 := by kernel_rfl
@[simp] theorem zr39 : zr Try.prog 39 = .nilf := by kernel_rfl
@[simp] theorem td40 : td Try.prog 40 = .func := by kernel_rfl
@[simp] theorem sz40 : sz Try.prog 40 = 1 := by kernel_rfl
@[simp] theorem byt40 : byt Try.prog 40 = 8 := by kernel_rfl
@[simp] theorem zr40 : zr Try.prog 40 = .nilf := by kernel_rfl
@[simp] theorem td41 : td Try.prog 41 = .func := by kernel_rfl
@[simp] theorem sz41 : sz Try.prog 41 = 1 := by kernel_rfl
@[simp] theorem byt41 : byt Try.prog 41 = 8 := by kernel_rfl
@[simp] theorem zr41 : zr Try.prog 41 = .nilf := by kernel_rfl
@[simp] theorem td42 : td Try.prog 42 = .func := by kernel_rfl
@[simp] theorem sz42 : sz Try.prog 42 = 1 := by kernel_rfl
@[simp] theorem byt42 : byt Try.prog 42 = 8 := by kernel_rfl
@[simp] theorem zr42 : zr Try.prog 42 = .nilf := by kernel_rfl
@[simp] theorem td43 : td Try.prog 43 = .int .i64 := by kernel_rfl
@[simp] theorem sz43 : sz Try.prog 43 = 1 := by kernel_rfl
@[simp] theorem byt43 : byt Try.prog 43 = 8 := by kernel_rfl
@[simp] theorem zr43 : zr Try.prog 43 = .int .i64 0 := by kernel_rfl
@[simp] theorem td45 : td Try.prog 45 = .func := by kernel_rfl
@[simp] theorem sz45 : sz Try.prog 45 = 1 := by kernel_rfl
@[simp] theorem byt45 : byt Try.prog 45 = 8 := by kernel_rfl
@[simp] theorem zr45 : zr Try.prog 45 = .nilf := by kernel_rfl
@[simp] theorem td46 : td Try.prog 46 = .func := by kernel_rfl
@[simp] theorem sz46 : sz Try.prog 46 = 1 := by kernel_rfl
@[simp] theorem byt46 : byt Try.prog 46 = 8 := by kernel_rfl
@[simp] theorem zr46 : zr Try.prog 46 = .nilf := by kernel_rfl
@[simp] theorem td47 : td Try.prog 47 = .func := by kernel_rfl
@[simp] theorem sz47 : sz Try.prog 47 = 1 := by kernel_rfl
@[simp] theorem byt47 : byt Try.prog 47 = 8 := by kernel_rfl
@[simp] theorem zr47 : zr Try.prog 47 = .nilf := by kernel_rfl
@[simp] theorem td48 : td Try.prog 48 = .func := by kernel_rfl
@[simp] theorem sz48 : sz Try.prog 48 = 1 := by kernel_rfl
@[simp] theorem byt48 : byt Try.prog 48 = 8 := by kernel_rfl
@[simp] theorem zr48 : zr Try.prog 48 = .nilf := by kernel_rfl
@[simp] theorem td49 : td Try.prog 49 = .slice 55 := by kernel_rfl
@[simp] theorem sz49 : sz Try.prog 49 = 1 := by kernel_rfl
@[simp] theorem byt49 : byt Try.prog 49 = 24 := by kernel_rfl
@[simp] theorem zr49 : zr Try.prog 49 = .sl true 0 [] := by kernel_rfl
@[simp] theorem td50 : td Try.prog 50 = .func := by kernel_rfl
@[simp] theorem sz50 : sz Try.prog 50 = 1 := by kernel_rfl
@[simp] theorem byt50 : byt Try.prog 50 = 8 := by kernel_rfl
@[simp] theorem zr50 : zr Try.prog 50 = .nilf := by kernel_rfl
@[simp] theorem td51 : td Try.prog 51 = .slice 99 := by kernel_rfl
@[simp] theorem sz51 : sz Try.prog 51 = 1 := by kernel_rfl
@[simp] theorem byt51 : byt Try.prog 51 = 24 := by kernel_rfl
@[simp] theorem zr51 : zr Try.prog 51 = .sl true 0 [] := by kernel_rfl
@[simp] theorem td52 : td Try.prog 52 = .slice 28 := by kernel_rfl
@[simp] theorem sz52 : sz Try.prog 52 = 1 := by kernel_rfl
@[simp] theorem byt52 : byt Try.prog 52 = 24 := by kernel_rfl
@[simp] theorem zr52 : zr Try.prog 52 = .sl true 0 [] := by kernel_rfl
@[simp] theorem td53 : td Try.prog 53 = .slice 171 := by kernel_rfl
@[simp] theorem sz53 : sz Try.prog 53 = 1 := by kernel_rfl
@[simp] theorem byt53 : byt Try.prog 53 = 24 := by kernel_rfl
@[simp] theorem zr53 : zr Try.prog 53 = .sl true 0 [] := by kernel_rfl
@[simp] theorem td54 : td Try.prog 54 = .struct [(0, 24), (1, 24), (2, 3), (3, 3), (4, 3), (5, 3), (6, 3), (7, 3), (8, 3), (9, 3), (10, 3), (11, 52), (12, 53)] := by kernel_rfl
@[simp] theorem sz54 : sz Try.prog 54 = 13 := by kernel_rfl
@[simp] theorem byt54 : byt Try.prog 54 = 136 := by kernel_rfl
@[simp] theorem zr54 : zr Try.prog 54 = .agg ([.int .u64 0, .int .u64 0, .int .i64 0, .int .i64 0, .int .i64 0, .int .i64 0, .int .i64 0, .int .i64 0, .int .i64 0, .int .i64 0, .int .i64 0, .sl true 0 [], .sl true 0 []]) := by kernel_rfl
@[simp] theorem td55 : td Try.prog 55 = .struct [(0, 24), (1, 24), (2, 3), (3, 3), (4, 3), (5, 3), (6, 3), (7, 3), (8, 3), (9, 3), (10, 3), (11, 52), (12, 53)] := by kernel_rfl
@[simp] theorem sz55 : sz Try.prog 55 = 13 := by kernel_rfl
@[simp] theorem byt55 : byt Try.prog 55 = 136 := by kernel_rfl
@[simp] theorem zr55 : zr Try.prog 55 = .agg ([.int .u64 0, .int .u64 0, .int .i64 0, .int .i64 0, .int .i64 0, .int .i64 0, .int .i64 0, .int .i64 0, .int .i64 0, .int .i64 0, .int .i64 0, .sl true 0 [], .sl true 0 []]) := by kernel_rfl
@[simp] theorem td57 : td Try.prog 57 = .func := by kernel_rfl
@[simp] theorem sz57 : sz Try.prog 57 = 1 := by kernel_rfl
@[simp] theorem byt57 : byt Try.prog 57 = 8 := by kernel_rfl
@[simp] theorem zr57 : zr Try.prog 57 = .nilf := by kernel_rfl
@[simp] theorem td58 : td Try.prog 58 = .func := by kernel_rfl
@[simp] theorem sz58 : sz Try.prog 58 = 1 := by kernel_rfl
@[simp] theorem byt58 : byt Try.prog 58 = 8 := by kernel_rfl
@[simp] theorem zr58 : zr Try.prog 58 = .nilf := by kernel_rfl
@[simp] theorem td59 : td Try.prog 59 = .func := by kernel_rfl
@[simp] theorem sz59 : sz Try.prog 59 = 1 := by kernel_rfl
@[simp] theorem byt59 : byt Try.prog 59 = 8 := by kernel_rfl
@[simp] theorem zr59 : zr Try.prog 59 = .nilf := by kernel_rfl
@[simp] theorem td60 : td Try.prog 60 = .func := by kernel_rfl
@[simp] theorem sz60 : sz Try.prog 60 = 1 := by kernel_rfl
@[simp] theorem byt60 : byt Try.prog 60 = 8 := by kernel_rfl
@[simp] theorem zr60 : zr Try.prog 60 = .nilf := by kernel_rfl
@[simp] theorem td61 : td Try.prog 61 = .func := by kernel_rfl
@[simp] theorem sz61 : sz Try.prog 61 = 1 := by kernel_rfl
@[simp] theorem byt61 : byt Try.prog 61 = 8 := by kernel_rfl
@[simp] theorem zr61 : zr Try.prog 61 = .nilf := by kernel_rfl
@[simp] theorem td62 : td Try.prog 62 = .struct [(0, 26), (2, 26)] := by kernel_rfl
@[simp] theorem sz62 : sz Try.prog 62 = 4 := by kernel_rfl
@[simp] theorem byt62 : byt Try.prog 62 = 32 := by kernel_rfl
@[simp] theorem zr62 : zr Try.prog 62 = .agg ([.int .u64 0, .int .u64 0, .int .u64 0, .int .u64 0]) := by kernel_rfl
@[simp] theorem fl62 : flatT Try.prog 62 = some ([false, false, false, false]) := by kernel_rfl
@[simp] theorem td63 : td Try.prog 63 = .struct [(0, 26), (2, 26)] := by kernel_rfl
@[simp] theorem sz63 : sz Try.prog 63 = 4 := by kernel_rfl
@[simp] theorem byt63 : byt Try.prog 63 = 32 := by kernel_rfl
@[simp] theorem zr63 : zr Try.prog 63 = .agg ([.int .u64 0, .int .u64 0, .int .u64 0, .int .u64 0]) := by kernel_rfl
@[simp] theorem fl63 : flatT Try.prog 63 = some ([false, false, false, false]) := by kernel_rfl
@[simp] theorem td64 : td Try.prog 64 = .array 24 63 := by kernel_rfl
@[simp] theorem sz64 : sz Try.prog 64 = 96 := by kernel_rfl
@[simp] theorem byt64 : byt Try.prog 64 = 768 := by kernel_rfl
@[simp] theorem zr64 : zr Try.prog 64 = .agg (repl 96 (.int .u64 0)) := by kernel_rfl
@[simp] theorem fl64 : flatT Try.prog 64 = some (repl 96 (false)) := by kernel_rfl
@[simp] theorem td65 : td Try.prog 65 = .array 24 63 := by kernel_rfl
@[simp] theorem sz65 : sz Try.prog 65 = 96 := by kernel_rfl
@[simp] theorem byt65 : byt Try.prog 65 = 768 := by kernel_rfl
@[simp] theorem zr65 : zr Try.prog 65 = .agg (repl 96 (.int .u64 0)) := by kernel_rfl
@[simp] theorem fl65 : flatT Try.prog 65 = some (repl 96 (false)) := by kernel_rfl
@[simp] theorem td66 : td Try.prog 66 = .func := by kernel_rfl
@[simp] theorem sz66 : sz Try.prog 66 = 1 := by kernel_rfl
@[simp] theorem byt66 : byt Try.prog 66 = 8 := by kernel_rfl
@[simp] theorem zr66 : zr Try.prog 66 = .nilf := by kernel_rfl
@[simp] theorem td67 : td Try.prog 67 = .func := by kernel_rfl
@[simp] theorem sz67 : sz Try.prog 67 = 1 := by kernel_rfl
@[simp] theorem byt67 : byt Try.prog 67 = 8 := by kernel_rfl
@[simp] theorem zr67 : zr Try.prog 67 = .nilf := by kernel_rfl
@[simp] theorem td68 : td Try.prog 68 = .func := by kernel_rfl
@[simp] theorem sz68 : sz Try.prog 68 = 1 := by kernel_rfl
@[simp] theorem byt68 : byt Try.prog 68 = 8 := by kernel_rfl
@[simp] theorem zr68 : zr Try.prog 68 = .nilf := by kernel_rfl
@[simp] theorem td69 : td Try.prog 69 = .func := by kernel_rfl
@[simp] theorem sz69 : sz Try.prog 69 = 1 := by kernel_rfl
@[simp] theorem byt69 : byt Try.prog 69 = 8 := by kernel_rfl
@[simp] theorem zr69 : zr Try.prog 69 = .nilf := by kernel_rfl
@[simp] theorem td70 : td Try.prog 70 = .func := by kernel_rfl
@[simp] theorem sz70 : sz Try.prog 70 = 1 := by kernel_rfl
@[simp] theorem byt70 : byt Try.prog 70 = 8 := by kernel_rfl
@[simp] theorem zr70 : zr Try.prog 70 = .nilf := by kernel_rfl
@[simp] theorem td71 : td Try.prog 71 = .slice 3 := by kernel_rfl
@[simp] theorem sz71 : sz Try.prog 71 = 1 := by kernel_rfl
@[simp] theorem byt71 : byt Try.prog 71 = 24 := by kernel_rfl
@[simp] theorem zr71 : zr Try.prog 71 = .sl true 0 [] := by kernel_rfl
@[simp] theorem td72 : td Try.prog 72 = .func := by kernel_rfl
@[simp] theorem sz72 : sz Try.prog 72 = 1 := by kernel_rfl
@[simp] theorem byt72 : byt Try.prog 72 = 8 := by kernel_rfl
@[simp] theorem zr72 : zr Try.prog 72 = .nilf := by kernel_rfl
@[simp] theorem td73 : td Try.prog 73 = .func := by kernel_rfl
@[simp] theorem sz73 : sz Try.prog 73 = 1 := by kernel_rfl
@[simp] theorem byt73 : byt Try.prog 73 = 8 := by kernel_rfl
@[simp] theorem zr73 : zr Try.prog 73 = .nilf := by kernel_rfl
@[simp] theorem td74 : td Try.prog 74 = .func := by kernel_rfl
@[simp] theorem sz74 : sz Try.prog 74 = 1 := by kernel_rfl
@[simp] theorem byt74 : byt Try.prog 74 = 8 := by kernel_rfl
@[simp] theorem zr74 : zr Try.prog 74 = .nilf := by kernel_rfl
@[simp] theorem td75 : td Try.prog 75 = .func := by kernel_rfl
@[simp] theorem sz75 : sz Try.prog 75 = 1 := by kernel_rfl
@[simp] theorem byt75 : byt Try.prog 75 = 8 := by kernel_rfl
@[simp] theorem zr75 : zr Try.prog 75 = .nilf := by kernel_rfl
@[simp] theorem td76 : td Try.prog 76 = .func := by kernel_rfl
@[simp] theorem sz76 : sz Try.prog 76 = 1 := by kernel_rfl
@[simp] theorem byt76 : byt Try.prog 76 = 8 := by kernel_rfl
@[simp] theorem zr76 : zr Try.prog 76 = .nilf := by kernel_rfl
@[simp] theorem td78 : td Try.prog 78 = .func := by kernel_rfl
@[simp] theorem sz78 : sz Try.prog 78 = 1 := by kernel_rfl
@[simp] theorem byt78 : byt Try.prog 78 = 8 := by kernel_rfl
@[simp] theorem zr78 : zr Try.prog 78 = .nilf := by kernel_rfl
@[simp] theorem td80 : td Try.prog 80 = .func := by kernel_rfl
@[simp] theorem sz80 : sz Try.prog 80 = 1 := by kernel_rfl
@[simp] theorem byt80 : byt Try.prog 80 = 8 := by kernel_rfl
@[simp] theorem zr80 : zr Try.prog 80 = .nilf := by kernel_rfl
@[simp] theorem td81 : td Try.prog 81 = .func := by kernel_rfl
@[simp] theorem sz81 : sz Try.prog 81 = 1 := by kernel_rfl
@[simp] theorem byt81 : byt Try.prog 81 = 8 := by kernel_rfl
@[simp] theorem zr81 : zr Try.prog 81 = .nilf := by kernel_rfl
@[simp] theorem td82 : td Try.prog 82 = .func := by kernel_rfl
@[simp] theorem sz82 : sz Try.prog 82 = 1 := by kernel_rfl
@[simp] theorem byt82 : byt Try.prog 82 = 8 := by kernel_rfl
@[simp] theorem zr82 : zr Try.prog 82 = .nilf := by kernel_rfl
@[simp] theorem td83 : td Try.prog 83 = .func := by kernel_rfl
@[simp] theorem sz83 : sz Try.prog 83 = 1 := by kernel_rfl
@[simp] theorem byt83 : byt Try.prog 83 = 8 := by kernel_rfl
@[simp] theorem zr83 : zr Try.prog 83 = .nilf := by kernel_rfl
@[simp] theorem td84 : td Try.prog 84 = .func := by kernel_rfl
@[simp] theorem sz84 : sz Try.prog 84 = 1 := by kernel_rfl
@[simp] theorem byt84 : byt Try.prog 84 = 8 := by kernel_rfl
@[simp] theorem zr84 : zr Try.prog 84 = .nilf := by kernel_rfl
@[simp] theorem td85 : td Try.prog 85 = .struct [(0, 3), (1, 3)] := by kernel_rfl
@[simp] theorem sz85 : sz Try.prog 85 = 2 := by kernel_rfl
@[simp] theorem byt85 : byt Try.prog 85 = 16 := by kernel_rfl
@[simp] theorem zr85 : zr Try.prog 85 = .agg ([.int .i64 0, .int .i64 0]) := by kernel_rfl
@[simp] theorem fl85 : flatT Try.prog 85 = some ([false, false]) := by kernel_rfl
@[simp] theorem td86 : td Try.prog 86 = .struct [(0, 3), (1, 3)] := by kernel_rfl
@[simp] theorem sz86 : sz Try.prog 86 = 2 := by kernel_rfl
@[simp] theorem byt86 : byt Try.prog 86 = 16 := by kernel_rfl
@[simp] theorem zr86 : zr Try.prog 86 = .agg ([.int .i64 0, .int .i64 0]) := by kernel_rfl
@[simp] theorem fl86 : flatT Try.prog 86 = some ([false, false]) := by kernel_rfl
@[simp] theorem td87 : td Try.prog 87 = .func := by kernel_rfl
@[simp] theorem sz87 : sz Try.prog 87 = 1 := by kernel_rfl
@[simp] theorem byt87 : byt Try.prog 87 = 8 := by kernel_rfl
@[simp] theorem zr87 : zr Try.prog 87 = .nilf := by kernel_rfl
@[simp] theorem td88 : td Try.prog 88 = .func := by kernel_rfl
@[simp] theorem sz88 : sz Try.prog 88 = 1 := by kernel_rfl
@[simp] theorem byt88 : byt Try.prog 88 = 8 := by kernel_rfl
@[simp] theorem zr88 : zr Try.prog 88 = .nilf := by kernel_rfl
@[simp] theorem td89 : td Try.prog 89 = .func := by kernel_rfl
@[simp] theorem sz89 : sz Try.prog 89 = 1 := by kernel_rfl
@[simp] theorem byt89 : byt Try.prog 89 = 8 := by kernel_rfl
@[simp] theorem zr89 : zr Try.prog 89 = .nilf := by kernel_rfl
@[simp] theorem td90 : td Try.prog 90 = .func := by kernel_rfl
@[simp] theorem sz90 : sz Try.prog 90 = 1 := by kernel_rfl
@[simp] theorem byt90 : byt Try.prog 90 = 8 := by kernel_rfl
@[simp] theorem zr90 : zr Try.prog 90 = .nilf := by kernel_rfl
@[simp] theorem td91 : td Try.prog 91 = .func := by kernel_rfl
@[simp] theorem sz91 : sz Try.prog 91 = 1 := by kernel_rfl
@[simp] theorem byt91 : byt Try.prog 91 = 8 := by kernel_rfl
@[simp] theorem zr91 : zr Try.prog 91 = .nilf := by kernel_rfl
@[simp] theorem td92 : td Try.prog 92 = .func := by kernel_rfl
@[simp] theorem sz92 : sz Try.prog 92 = 1 := by kernel_rfl
@[simp] theorem byt92 : byt Try.prog 92 = 8 := by kernel_rfl
@[simp] theorem zr92 : zr Try.prog 92 = .nilf := by kernel_rfl
@[simp] theorem td93 : td Try.prog 93 = .func := by kernel_rfl
@[simp] theorem sz93 : sz Try.prog 93 = 1 := by kernel_rfl
@[simp] theorem byt93 : byt Try.prog 93 = 8 := by kernel_rfl
@[simp] theorem zr93 : zr Try.prog 93 = .nilf := by kernel_rfl
@[simp] theorem td94 : td Try.prog 94 = .func := by kernel_rfl
@[simp] theorem sz94 : sz Try.prog 94 = 1 := by kernel_rfl
@[simp] theorem byt94 : byt Try.prog 94 = 8 := by kernel_rfl
@[simp] theorem zr94 : zr Try.prog 94 = .nilf := by kernel_rfl
@[simp] theorem td95 : td Try.prog 95 = .func := by kernel_rfl
@[simp] theorem sz95 : sz Try.prog 95 = 1 := by kernel_rfl
@[simp] theorem byt95 : byt Try.prog 95 = 8 := by kernel_rfl
@[simp] theorem zr95 : zr Try.prog 95 = .nilf := by kernel_rfl
@[simp] theorem td96 : td Try.prog 96 = .func := by kernel_rfl
@[simp] theorem sz96 : sz Try.prog 96 = 1 := by kernel_rfl
@[simp] theorem byt96 : byt Try.prog 96 = 8 := by kernel_rfl
@[simp] theorem zr96 : zr Try.prog 96 = .nilf := by kernel_rfl
@[simp] theorem td97 : td Try.prog 97 = .func := by kernel_rfl
@[simp] theorem sz97 : sz Try.prog 97 = 1 := by kernel_rfl
@[simp] theorem byt97 : byt Try.prog 97 = 8 := by kernel_rfl
@[simp] theorem zr97 : zr Try.prog 97 = .nilf := by kernel_rfl
@[simp] theorem td98 : td Try.prog 98 = .struct [(0, 24), (1, 3), (2, 3), (3, 3), (4, 3), (5, 52), (6, 53)] := by kernel_rfl
@[simp] theorem sz98 : sz Try.prog 98 = 7 := by kernel_rfl
@[simp] theorem byt98 : byt Try.prog 98 = 88 := by kernel_rfl
@[simp] theorem zr98 : zr Try.prog 98 = .agg ([.int .u64 0, .int .i64 0, .int .i64 0, .int .i64 0, .int .i64 0, .sl true 0 [], .sl true 0 []]) := by kernel_rfl
@[simp] theorem td99 : td Try.prog 99 = .struct [(0, 24), (1, 3), (2, 3), (3, 3), (4, 3), (5, 52), (6, 53)] := by kernel_rfl
@[simp] theorem sz99 : sz Try.prog 99 = 7 := by kernel_rfl
@[simp] theorem byt99 : byt Try.prog 99 = 88 := by kernel_rfl
@[simp] theorem zr99 : zr Try.prog 99 = .agg ([.int .u64 0, .int .i64 0, .int .i64 0, .int .i64 0, .int .i64 0, .sl true 0 [], .sl true 0 []]) := by kernel_rfl
@[simp] theorem td100 : td Try.prog 100 = .ptr 102 := by kernel_rfl
@[simp] theorem sz100 : sz Try.prog 100 = 1 := by kernel_rfl
@[simp] theorem byt100 : byt Try.prog 100 = 8 := by kernel_rfl
@[simp] theorem zr100 : zr Try.prog 100 = .nilp := by kernel_rfl
@[simp] theorem td101 : td Try.prog 101 = .struct [(0, 55), (13, 51)] := by kernel_rfl
@[simp] theorem sz101 : sz Try.prog 101 = 14 := by kernel_rfl
@[simp] theorem byt101 : byt Try.prog 101 = 160 := by kernel_rfl
@[simp] theorem zr101 : zr Try.prog 101 = .agg ([.int .u64 0, .int .u64 0, .int .i64 0, .int .i64 0, .int .i64 0, .int .i64 0, .int .i64 0, .int .i64 0, .int .i64 0, .int .i64 0, .int .i64 0, .sl true 0 [], .sl true 0 [], .sl true 0 []]) := by kernel_rfl
@[simp] theorem td102 : td Try.prog 102 = .struct [(0, 55), (13, 51)] := by kernel_rfl
@[simp] theorem sz102 : sz Try.prog 102 = 14 := by kernel_rfl
@[simp] theorem byt102 : byt Try.prog 102 = 160 := by kernel_rfl
@[simp] theorem zr102 : zr Try.prog 102 = .agg ([.int .u64 0, .int .u64 0, .int .i64 0, .int .i64 0, .int .i64 0, .int .i64 0, .int .i64 0, .int .i64 0, .int .i64 0, .int .i64 0, .int .i64 0, .sl true 0 [], .sl true 0 [], .sl true 0 []]) := by kernel_rfl
@[simp] theorem td103 : td Try.prog 103 = .func := by kernel_rfl
@[simp] theorem sz103 : sz Try.prog 103 = 1 := by kernel_rfl
@[simp] theorem byt103 : byt Try.prog 103 = 8 := by kernel_rfl
@[simp] theorem zr103 : zr Try.prog 103 = .nilf := by kernel_rfl
@[simp] theorem td104 : td Try.prog 104 = .func := by kernel_rfl
@[simp] theorem sz104 : sz Try.prog 104 = 1 := by kernel_rfl
@[simp] theorem byt104 : byt Try.prog 104 = 8 := by kernel_rfl
@[simp] theorem zr104 : zr Try.prog 104 = .nilf := by kernel_rfl
@[simp] theorem td105 : td Try.prog 105 = .func := by kernel_rfl
@[simp] theorem sz105 : sz Try.prog 105 = 1 := by kernel_rfl
@[simp] theorem byt105 : byt Try.prog 105 = 8 := by kernel_rfl
@[simp] theorem zr105 : zr Try.prog 105 = .nilf := by kernel_rfl
@[simp] theorem td106 : td Try.prog 106 = .func := by kernel_rfl
@[simp] theorem sz106 : sz Try.prog 106 = 1 := by kernel_rfl
@[simp] theorem byt106 : byt Try.prog 106 = 8 := by kernel_rfl
@[simp] theorem zr106 : zr Try.prog 106 = .nilf := by kernel_rfl
@[simp] theorem td107 : td Try.prog 107 = .func := by kernel_rfl
@[simp] theorem sz107 : sz Try.prog 107 = 1 := by kernel_rfl
@[simp] theorem byt107 : byt Try.prog 107 = 8 := by kernel_rfl
@[simp] theorem zr107 : zr Try.prog 107 = .nilf := by kernel_rfl
@[simp] theorem td108 : td Try.prog 108 = .func := by kernel_rfl
@[simp] theorem sz108 : sz Try.prog 108 = 1 := by kernel_rfl
@[simp] theorem byt108 : byt Try.prog 108 = 8 := by kernel_rfl
@[simp] theorem zr108 : zr Try.prog 108 = .nilf := by kernel_rfl
@[simp] theorem td109 : td Try.prog 109 = .func := by kernel_rfl
@[simp] theorem sz109 : sz Try.prog 109 = 1 := by kernel_rfl
@[simp] theorem byt109 : byt Try.prog 109 = 8 := by kernel_rfl
@[simp] theorem zr109 : zr Try.prog 109 = .nilf := by kernel_rfl
@[simp] theorem td110 : td Try.prog 110 = .func := by kernel_rfl
@[simp] theorem sz110 : sz Try.prog 110 = 1 := by kernel_rfl
@[simp] theorem byt110 : byt Try.prog 110 = 8 := by kernel_rfl
@[simp] theorem zr110 : zr Try.prog 110 = .nilf := by kernel_rfl
@[simp] theorem td111 : td Try.prog 111 = .func := by kernel_rfl
@[simp] theorem sz111 : sz Try.prog 111 = 1 := by kernel_rfl
@[simp] theorem byt111 : byt Try.prog 111 = 8 := by kernel_rfl
@[simp] theorem zr111 : zr Try.prog 111 = .nilf := by kernel_rfl
@[simp] theorem td112 : td Try.prog 112 = .func := by kernel_rfl
@[simp] theorem sz112 : sz Try.prog 112 = 1 := by kernel_rfl
@[simp] theorem byt112 : byt Try.prog 112 = 8 := by kernel_rfl
@[simp] theorem zr112 : zr Try.prog 112 = .nilf := by kernel_rfl
@[simp] theorem td113 : td Try.prog 113 = .func := by kernel_rfl
@[simp] theorem sz113 : sz Try.prog 113 = 1 := by kernel_rfl
@[simp] theorem byt113 : byt Try.prog 113 = 8 := by kernel_rfl
@[simp] theorem zr113 : zr Try.prog 113 = .nilf := by kernel_rfl
@[simp] theorem td114 : td Try.prog 114 = .func := by kernel_rfl
@[simp] theorem sz114 : sz Try.prog 114 = 1 := by kernel_rfl
@[simp] theorem byt114 : byt Try.prog 114 = 8 := by kernel_rfl
@[simp] theorem zr114 : zr Try.prog 114 = .nilf := by kernel_rfl
@[simp] theorem td115 : td Try.prog 115 = .func := by kernel_rfl
@[simp] theorem sz115 : sz Try.prog 115 = 1 := by kernel_rfl
@[simp] theorem byt115 : byt Try.prog 115 = 8 := by kernel_rfl
@[simp] theorem zr115 : zr Try.prog 115 = .nilf := by kernel_rfl
@[simp] theorem td116 : td Try.prog 116 = .func := by kernel_rfl
@[simp] theorem sz116 : sz Try.prog 116 = 1 := by kernel_rfl
@[simp] theorem byt116 : byt Try.prog 116 = 8 := by kernel_rfl
@[simp] theorem zr116 : zr Try.prog 116 = .nilf := by kernel_rfl
@[simp] theorem td117 : td Try.prog 117 = .func := by kernel_rfl
@[simp] theorem sz117 : sz Try.prog 117 = 1 := by kernel_rfl
@[simp] theorem byt117 : byt Try.prog 117 = 8 := by kernel_rfl
@[simp] theorem zr117 : zr Try.prog 117 = .nilf := by kernel_rfl
@[simp] theorem td119 : td Try.prog 119 = .func := by kernel_rfl
@[simp] theorem sz119 : sz Try.prog 119 = 1 := by kernel_rfl
@[simp] theorem byt119 : byt Try.prog 119 = 8 := by kernel_rfl
@[simp] theorem zr119 : zr Try.prog 119 = .nilf := by kernel_rfl
@[simp] theorem td120 : td Try.prog 120 = .int .u64 := by kernel_rfl
@[simp] theorem sz120 : sz Try.prog 120 = 1 := by kernel_rfl
@[simp] theorem byt120 : byt Try.prog 120 = 8 := by kernel_rfl
@[simp] theorem zr120 : zr Try.prog 120 = .int .u64 0 := by kernel_rfl
@[simp] theorem td122 : td Try.prog 122 = .func := by kernel_rfl
@[simp] theorem sz122 : sz Try.prog 122 = 1 := by kernel_rfl
@[simp] theorem byt122 : byt Try.prog 122 = 8 := by kernel_rfl
@[simp] theorem zr122 : zr Try.prog 122 = .nilf := by kernel_rfl
@[simp] theorem td123 : td Try.prog 123 = .func := by kernel_rfl
@[simp] theorem sz123 : sz Try.prog 123 = 1 := by kernel_rfl
@[simp] theorem byt123 : byt Try.prog 123 = 8 := by kernel_rfl
@[simp] theorem zr123 : zr Try.prog 123 = .nilf := by kernel_rfl
@[simp] theorem td124 : td Try.prog 124 = .func := by kernel_rfl
@[simp] theorem sz124 : sz Try.prog 124 = 1 := by kernel_rfl
@[simp] theorem byt124 : byt Try.prog 124 = 8 := by kernel_rfl
@[simp] theorem zr124 : zr Try.prog 124 = .nilf := by kernel_rfl
@[simp] theorem td125 : td Try.prog 125 = .func := by kernel_rfl
@[simp] theorem sz125 : sz Try.prog 125 = 1 := by kernel_rfl
@[simp] theorem byt125 : byt Try.prog 125 = 8 := by kernel_rfl
@[simp] theorem zr125 : zr Try.prog 125 = .nilf := by kernel_rfl
@[simp] theorem td126 : td Try.prog 126 = .array 4 5 := by kernel_rfl
@[simp] theorem sz126 : sz Try.prog 126 = 4 := by kernel_rfl
@[simp] theorem byt126 : byt Try.prog 126 = 4 := by kernel_rfl
@[simp] theorem zr126 : zr Try.prog 126 = .agg ([.int .u8 0, .int .u8 0, .int .u8 0, .int .u8 0]) := by kernel_rfl
@[simp] theorem fl126 : flatT Try.prog 126 = some ([false, false, false, false]) := by kernel_rfl
@[simp] theorem td127 : td Try.prog 127 = .func := by kernel_rfl
@[simp] theorem sz127 : sz Try.prog 127 = 1 := by kernel_rfl
@[simp] theorem byt127 : byt Try.prog 127 = 8 := by kernel_rfl
@[simp] theorem zr127 : zr Try.prog 127 = .nilf := by kernel_rfl
@[simp] theorem td128 : td Try.prog 128 = .func := by kernel_rfl
@[simp] theorem sz128 : sz Try.prog 128 = 1 := by kernel_rfl
@[simp] theorem byt128 : byt Try.prog 128 = 8 := by kernel_rfl
@[simp] theorem zr128 : zr Try.prog 128 = .nilf := by kernel_rfl
@[simp] theorem td129 : td Try.prog 129 = .int .i64 := by kernel_rfl
@[simp] theorem sz129 : sz Try.prog 129 = 1 := by kernel_rfl
@[simp] theorem byt129 : byt Try.prog 129 = 8 := by kernel_rfl
@[simp] theorem zr129 : zr Try.prog 129 = .int .i64 0 := by kernel_rfl
@[simp] theorem td130 : td Try.prog 130 = .func := by kernel_rfl
@[simp] theorem sz130 : sz Try.prog 130 = 1 := by kernel_rfl
@[simp] theorem byt130 : byt Try.prog 130 = 8 := by kernel_rfl
@[simp] theorem zr130 : zr Try.prog 130 = .nilf := by kernel_rfl
@[simp] theorem td131 : td Try.prog 131 = .func := by kernel_rfl
@[simp] theorem sz131 : sz Try.prog 131 = 1 := by kernel_rfl
@[simp] theorem byt131 : byt Try.prog 131 = 8 := by kernel_rfl
@[simp] theorem zr131 : zr Try.prog 131 = .nilf := by kernel_rfl
@[simp] theorem td132 : td Try.prog 132 = .func := by kernel_rfl
@[simp] theorem sz132 : sz Try.prog 132 = 1 := by kernel_rfl
@[simp] theorem byt132 : byt Try.prog 132 = 8 := by kernel_rfl
@[simp] theorem zr132 : zr Try.prog 132 = .nilf := by kernel_rfl
@[simp] theorem td133 : td Try.prog 133 = .func := by kernel_rfl
@[simp] theorem sz133 : sz Try.prog 133 = 1 := by kernel_rfl
@[simp] theorem byt133 : byt Try.prog 133 = 8 := by kernel_rfl
@[simp] theorem zr133 : zr Try.prog 133 = .nilf := by kernel_rfl
@[simp] theorem td134 : td Try.prog 134 = .func := by kernel_rfl
@[simp] theorem sz134 : sz Try.prog 134 = 1 := by kernel_rfl
@[simp] theorem byt134 : byt Try.prog 134 = 8 := by kernel_rfl
@[simp] theorem zr134 : zr Try.prog 134 = .nilf := by kernel_rfl
@[simp] theorem td135 : td Try.prog 135 = .func := by kernel_rfl
@[simp] theorem sz135 : sz Try.prog 135 = 1 := by kernel_rfl
@[simp] theorem byt135 : byt Try.prog 135 = 8 := by kernel_rfl
@[simp] theorem zr135 : zr Try.prog 135 = .nilf := by kernel_rfl
@[simp] theorem td136 : td Try.prog 136 = .func := by kernel_rfl
@[simp] theorem sz136 : sz Try.prog 136 = 1 := by kernel_rfl
@[simp] theorem byt136 : byt Try.prog 136 = 8 := by kernel_rfl
@[simp] theorem zr136 : zr Try.prog 136 = .nilf := by kernel_rfl
@[simp] theorem td137 : td Try.prog 137 = .func := by kernel_rfl
@[simp] theorem sz137 : sz Try.prog 137 = 1 := by kernel_rfl
@[simp] theorem byt137 : byt Try.prog 137 = 8 := by kernel_rfl
@[simp] theorem zr137 : zr Try.prog 137 = .nilf := by kernel_rfl
@[simp] theorem td138 : td Try.prog 138 = .func := by kernel_rfl
@[simp] theorem sz138 : sz Try.prog 138 = 1 := by kernel_rfl
@[simp] theorem byt138 : byt Try.prog 138 = 8 := by kernel_rfl
@[simp] theorem zr138 : zr Try.prog 138 = .nilf := by kernel_rfl
@[simp] theorem td139 : td Try.prog 139 = .func := by kernel_rfl
@[simp] theorem sz139 : sz Try.prog 139 = 1 := by kernel_rfl
@[simp] theorem byt139 : byt Try.prog 139 = 8 := by kernel_rfl
@[simp] theorem zr139 : zr Try.prog 139 = .nilf := by kernel_rfl
@[simp] theorem td140 : td Try.prog 140 = .func := by kernel_rfl
@[simp] theorem sz140 : sz Try.prog 140 = 1 := by kernel_rfl
@[simp] theorem byt140 : byt Try.prog 140 = 8 := by kernel_rfl
@[simp] theorem zr140 : zr Try.prog 140 = .nilf := by kernel_rfl
@[simp] theorem td141 : td Try.prog 141 = .func := by kernel_rfl
@[simp] theorem sz141 : sz Try.prog 141 = 1 := by kernel_rfl
@[simp] theorem byt141 : byt Try.prog 141 = 8 := by kernel_rfl
@[simp] theorem zr141 : zr Try.prog 141 = .nilf := by kernel_rfl
@[simp] theorem td142 : td Try.prog 142 = .array 24 63 := by kernel_rfl
@[simp] theorem sz142 : sz Try.prog 142 = 96 := by kernel_rfl
@[simp] theorem byt142 : byt Try.prog 142 = 768 := by kernel_rfl
@[simp] theorem zr142 : zr Try.prog 142 = .agg (repl 96 (.int .u64 0)) := by kernel_rfl
@[simp] theorem fl142 : flatT Try.prog 142 = some (repl 96 (false)) := by kernel_rfl
@[simp] theorem td143 : td Try.prog 143 = .struct [(0, 3), (1, 142)] := by kernel_rfl
@[simp] theorem sz143 : sz Try.prog 143 = 97 := by kernel_rfl
@[simp] theorem byt143 : byt Try.prog 143 = 776 := by kernel_rfl
@[simp] theorem zr143 : zr Try.prog 143 = .agg (.int .i64 0 :: repl 96 (.int .u64 0)) := by kernel_rfl
@[simp] theorem fl143 : flatT Try.prog 143 = some (repl 97 (false)) := by kernel_rfl
@[simp] theorem td144 : td Try.prog 144 = .struct [(0, 3), (1, 142)] := by kernel_rfl
@[simp] theorem sz144 : sz Try.prog 144 = 97 := by kernel_rfl
@[simp] theorem byt144 : byt Try.prog 144 = 776 := by kernel_rfl
@[simp] theorem zr144 : zr Try.prog 144 = .agg (.int .i64 0 :: repl 96 (.int .u64 0)) := by kernel_rfl
@[simp] theorem fl144 : flatT Try.prog 144 = some (repl 97 (false)) := by kernel_rfl
@[simp] theorem td145 : td Try.prog 145 = .func := by kernel_rfl
@[simp] theorem sz145 : sz Try.prog 145 = 1 := by kernel_rfl
@[simp] theorem byt145 : byt Try.prog 145 = 8 := by kernel_rfl
@[simp] theorem zr145 : zr Try.prog 145 = .nilf := by kernel_rfl
@[simp] theorem td147 : td Try.prog 147 = .func := by kernel_rfl
@[simp] theorem sz147 : sz Try.prog 147 = 1 := by kernel_rfl
@[simp] theorem byt147 : byt Try.prog 147 = 8 := by kernel_rfl
@[simp] theorem zr147 : zr Try.prog 147 = .nilf := by kernel_rfl
@[simp] theorem td148 : td Try.prog 148 = .func := by kernel_rfl
@[simp] theorem sz148 : sz Try.prog 148 = 1 := by kernel_rfl
@[simp] theorem byt148 : byt Try.prog 148 = 8 := by kernel_rfl
@[simp] theorem zr148 : zr Try.prog 148 = .nilf := by kernel_rfl
@[simp] theorem td149 : td Try.prog 149 = .func := by kernel_rfl
@[simp] theorem sz149 : sz Try.prog 149 = 1 := by kernel_rfl
@[simp] theorem byt149 : byt Try.prog 149 = 8 := by kernel_rfl
@[simp] theorem zr149 : zr Try.prog 149 = .nilf := by kernel_rfl
@[simp] theorem td150 : td Try.prog 150 = .func := by kernel_rfl
@[simp] theorem sz150 : sz Try.prog 150 = 1 := by kernel_rfl
@[simp] theorem byt150 : byt Try.prog 150 = 8 := by kernel_rfl
@[simp] theorem zr150 : zr Try.prog 150 = .nilf := by kernel_rfl
@[simp] theorem td151 : td Try.prog 151 = .func := by kernel_rfl
@[simp] theorem sz151 : sz Try.prog 151 = 1 := by kernel_rfl
@[simp] theorem byt151 : byt Try.prog 151 = 8 := by kernel_rfl
@[simp] theorem zr151 : zr Try.prog 151 = .nilf := by kernel_rfl
@[simp] theorem td152 : td Try.prog 152 = .func := by kernel_rfl
@[simp] theorem sz152 : sz Try.prog 152 = 1 := by kernel_rfl
@[simp] theorem byt152 : byt Try.prog 152 = 8 := by kernel_rfl
@[simp] theorem zr152 : zr Try.prog 152 = .nilf := by kernel_rfl
@[simp] theorem td153 : td Try.prog 153 = .array 2 24 := by kernel_rfl
@[simp] theorem sz153 : sz Try.prog 153 = 2 := by kernel_rfl
@[simp] theorem byt153 : byt Try.prog 153 = 16 := by kernel_rfl
@[simp] theorem zr153 : zr Try.prog 153 = .agg ([.int .u64 0, .int .u64 0]) := by kernel_rfl
@[simp] theorem fl153 : flatT Try.prog 153 = some ([false, false]) := by kernel_rfl
@[simp] theorem td154 : td Try.prog 154 = .func := by kernel_rfl
@[simp] theorem sz154 : sz Try.prog 154 = 1 := by kernel_rfl
@[simp] theorem byt154 : byt Try.prog 154 = 8 := by kernel_rfl
@[simp] theorem zr154 : zr Try.prog 154 = .nilf := by kernel_rfl
@[simp] theorem td155 : td Try.prog 155 = .func := by kernel_rfl
@[simp] theorem sz155 : sz Try.prog 155 = 1 := by kernel_rfl
@[simp] theorem byt155 : byt Try.prog 155 = 8 := by kernel_rfl
@[simp] theorem zr155 : zr Try.prog 155 = .nilf := by kernel_rfl
@[simp] theorem td157 : td Try.prog 157 = .func := by kernel_rfl
@[simp] theorem sz157 : sz Try.prog 157 = 1 := by kernel_rfl
@[simp] theorem byt157 : byt Try.prog 157 = 8 := by kernel_rfl
@[simp] theorem zr157 : zr Try.prog 157 = .nilf := by kernel_rfl
@[simp] theorem td159 : td Try.prog 159 = .func := by kernel_rfl
@[simp] theorem sz159 : sz Try.prog 159 = 1 := by kernel_rfl
@[simp] theorem byt159 : byt Try.prog 159 = 8 := by kernel_rfl
@[simp] theorem zr159 : zr Try.prog 159 = .nilf := by kernel_rfl
@[simp] theorem td160 : td Try.prog 160 = .func := by kernel_rfl
@[simp] theorem sz160 : sz Try.prog 160 = 1 := by kernel_rfl
@[simp] theorem byt160 : byt Try.prog 160 = 8 := by kernel_rfl
@[simp] theorem zr160 : zr Try.prog 160 = .nilf := by kernel_rfl
@[simp] theorem td162 : td Try.prog 162 = .func := by kernel_rfl
@[simp] theorem sz162 : sz Try.prog 162 = 1 := by kernel_rfl
@[simp] theorem byt162 : byt Try.prog 162 = 8 := by kernel_rfl
@[simp] theorem zr162 : zr Try.prog 162 = .nilf := by kernel_rfl
@[simp] theorem td164 : td Try.prog 164 = .func := by kernel_rfl
@[simp] theorem sz164 : sz Try.prog 164 = 1 := by kernel_rfl
@[simp] theorem byt164 : byt Try.prog 164 = 8 := by kernel_rfl
@[simp] theorem zr164 : zr Try.prog 164 = .nilf := by kernel_rfl
@[simp] theorem td165 : td Try.prog 165 = .func := by kernel_rfl
@[simp] theorem sz165 : sz Try.prog 165 = 1 := by kernel_rfl
@[simp] theorem byt165 : byt Try.prog 165 = 8 := by kernel_rfl
@[simp] theorem zr165 : zr Try.prog 165 = .nilf := by kernel_rfl
@[simp] theorem td166 : td Try.prog 166 = .struct [(0, 9), (1, 3), (2, 3), (3, 4)] := by kernel_rfl
@[simp] theorem sz166 : sz Try.prog 166 = 4 := by kernel_rfl
@[simp] theorem byt166 : byt Try.prog 166 = 40 := by kernel_rfl
@[simp] theorem zr166 : zr Try.prog 166 = .agg ([.str ByteArray.empty, .int .i64 0, .int .i64 0, .bool false]) := by kernel_rfl
@[simp] theorem td167 : td Try.prog 167 = .struct [(0, 9), (1, 3), (2, 3), (3, 4)] := by kernel_rfl
@[simp] theorem sz167 : sz Try.prog 167 = 4 := by kernel_rfl
@[simp] theorem byt167 : byt Try.prog 167 = 40 := by kernel_rfl
@[simp] theorem zr167 : zr Try.prog 167 = .agg ([.str ByteArray.empty, .int .i64 0, .int .i64 0, .bool false]) := by kernel_rfl
@[simp] theorem td168 : td Try.prog 168 = .func := by kernel_rfl
@[simp] theorem sz168 : sz Try.prog 168 = 1 := by kernel_rfl
@[simp] theorem byt168 : byt Try.prog 168 = 8 := by kernel_rfl
@[simp] theorem zr168 : zr Try.prog 168 = .nilf := by kernel_rfl
@[simp] theorem td169 : td Try.prog 169 = .func := by kernel_rfl
@[simp] theorem sz169 : sz Try.prog 169 = 1 := by kernel_rfl
@[simp] theorem byt169 : byt Try.prog 169 = 8 := by kernel_rfl
@[simp] theorem zr169 : zr Try.prog 169 = .nilf := by kernel_rfl
@[simp] theorem td170 : td Try.prog 170 = .struct [(0, 3), (1, 3), (2, 26), (4, 26), (6, 36)] := by kernel_rfl
@[simp] theorem sz170 : sz Try.prog 170 = 7 := by kernel_rfl
@[simp] theorem byt170 : byt Try.prog 170 = 72 := by kernel_rfl
@[simp] theorem zr170 : zr Try.prog 170 = .agg ([.int .i64 0, .int .i64 0, .int .u64 0, .int .u64 0, .int .u64 0, .int .u64 0, .sl true 0 []]) := by kernel_rfl
@[simp] theorem td171 : td Try.prog 171 = .struct [(0, 3), (1, 3), (2, 26), (4, 26), (6, 36)] := by kernel_rfl
@[simp] theorem sz171 : sz Try.prog 171 = 7 := by kernel_rfl
@[simp] theorem byt171 : byt Try.prog 171 = 72 := by kernel_rfl
@[simp] theorem zr171 : zr Try.prog 171 = .agg ([.int .i64 0, .int .i64 0, .int .u64 0, .int .u64 0, .int .u64 0, .int .u64 0, .sl true 0 []]) := by kernel_rfl
@[simp] theorem td172 : td Try.prog 172 = .func := by kernel_rfl
@[simp] theorem sz172 : sz Try.prog 172 = 1 := by kernel_rfl
@[simp] theorem byt172 : byt Try.prog 172 = 8 := by kernel_rfl
@[simp] theorem zr172 : zr Try.prog 172 = .nilf := by kernel_rfl
@[simp] theorem td173 : td Try.prog 173 = .array 4 3 := by kernel_rfl
@[simp] theorem sz173 : sz Try.prog 173 = 4 := by kernel_rfl
@[simp] theorem byt173 : byt Try.prog 173 = 32 := by kernel_rfl
@[simp] theorem zr173 : zr Try.prog 173 = .agg ([.int .i64 0, .int .i64 0, .int .i64 0, .int .i64 0]) := by kernel_rfl
@[simp] theorem fl173 : flatT Try.prog 173 = some ([false, false, false, false]) := by kernel_rfl
@[simp] theorem td174 : td Try.prog 174 = .func := by kernel_rfl
@[simp] theorem sz174 : sz Try.prog 174 = 1 := by kernel_rfl
@[simp] theorem byt174 : byt Try.prog 174 = 8 := by kernel_rfl
@[simp] theorem zr174 : zr Try.prog 174 = .nilf := by kernel_rfl
@[simp] theorem td175 : td Try.prog 175 = .func := by kernel_rfl
@[simp] theorem sz175 : sz Try.prog 175 = 1 := by kernel_rfl
@[simp] theorem byt175 : byt Try.prog 175 = 8 := by kernel_rfl
@[simp] theorem zr175 : zr Try.prog 175 = .nilf := by kernel_rfl
@[simp] theorem td176 : td Try.prog 176 = .func := by kernel_rfl
@[simp] theorem sz176 : sz Try.prog 176 = 1 := by kernel_rfl
@[simp] theorem byt176 : byt Try.prog 176 = 8 := by kernel_rfl
@[simp] theorem zr176 : zr Try.prog 176 = .nilf := by kernel_rfl
@[simp] theorem td177 : td Try.prog 177 = .func := by kernel_rfl
@[simp] theorem sz177 : sz Try.prog 177 = 1 := by kernel_rfl
@[simp] theorem byt177 : byt Try.prog 177 = 8 := by kernel_rfl
@[simp] theorem zr177 : zr Try.prog 177 = .nilf := by kernel_rfl
@[simp] theorem td178 : td Try.prog 178 = .func := by kernel_rfl
@[simp] theorem sz178 : sz Try.prog 178 = 1 := by kernel_rfl
@[simp] theorem byt178 : byt Try.prog 178 = 8 := by kernel_rfl
@[simp] theorem zr178 : zr Try.prog 178 = .nilf := by kernel_rfl
@[simp] theorem td179 : td Try.prog 179 = .func := by kernel_rfl
@[simp] theorem sz179 : sz Try.prog 179 = 1 := by kernel_rfl
@[simp] theorem byt179 : byt Try.prog 179 = 8 := by kernel_rfl
@[simp] theorem zr179 : zr Try.prog 179 = .nilf := by kernel_rfl
@[simp] theorem td180 : td Try.prog 180 = .func := by kernel_rfl
@[simp] theorem sz180 : sz Try.prog 180 = 1 := by kernel_rfl
@[simp] theorem byt180 : byt Try.prog 180 = 8 := by kernel_rfl
@[simp] theorem zr180 : zr Try.prog 180 = .nilf := by kernel_rfl
@[simp] theorem td181 : td Try.prog 181 = .func := by kernel_rfl
@[simp] theorem sz181 : sz Try.prog 181 = 1 := by kernel_rfl
@[simp] theorem byt181 : byt Try.prog 181 = 8 := by kernel_rfl
@[simp] theorem zr181 : zr Try.prog 181 = .nilf := by kernel_rfl
@[simp] theorem td182 : td Try.prog 182 = .func := by kernel_rfl
@[simp] theorem sz182 : sz Try.prog 182 = 1 := by kernel_rfl
@[simp] theorem byt182 : byt Try.prog 182 = 8 := by kernel_rfl
@[simp] theorem zr182 : zr Try.prog 182 = .nilf := by kernel_rfl
@[simp] theorem td183 : td Try.prog 183 = .func := by kernel_rfl
@[simp] theorem sz183 : sz Try.prog 183 = 1 := by kernel_rfl
@[simp] theorem byt183 : byt Try.prog 183 = 8 := by kernel_rfl
@[simp] theorem zr183 : zr Try.prog 183 = .nilf := by kernel_rfl
@[simp] theorem td185 : td Try.prog 185 = .func := by kernel_rfl
@[simp] theorem sz185 : sz Try.prog 185 = 1 := by kernel_rfl
@[simp] theorem byt185 : byt Try.prog 185 = 8 := by kernel_rfl
@[simp] theorem zr185 : zr Try.prog 185 = .nilf := by kernel_rfl
@[simp] theorem td186 : td Try.prog 186 = .func := by kernel_rfl
@[simp] theorem sz186 : sz Try.prog 186 = 1 := by kernel_rfl
@[simp] theorem byt186 : byt Try.prog 186 = 8 := by kernel_rfl
@[simp] theorem zr186 : zr Try.prog 186 = .nilf := by kernel_rfl
@[simp] theorem td187 : td Try.prog 187 = .func := by kernel_rfl
@[simp] theorem sz187 : sz Try.prog 187 = 1 := by kernel_rfl
@[simp] theorem byt187 : byt Try.prog 187 = 8 := by kernel_rfl
@[simp] theorem zr187 : zr Try.prog 187 = .nilf := by kernel_rfl
@[simp] theorem td188 : td Try.prog 188 = .func := by kernel_rfl
@[simp] theorem sz188 : sz Try.prog 188 = 1 := by kernel_rfl
@[simp] theorem byt188 : byt Try.prog 188 = 8 := by kernel_rfl
@[simp] theorem zr188 : zr Try.prog 188 = .nilf := by kernel_rfl
@[simp] theorem td189 : td Try.prog 189 = .func := by kernel_rfl
@[simp] theorem sz189 : sz Try.prog 189 = 1 := by kernel_rfl
@[simp] theorem byt189 : byt Try.prog 189 = 8 := by kernel_rfl
@[simp] theorem zr189 : zr Try.prog 189 = .nilf := by kernel_rfl
@[simp] theorem td190 : td Try.prog 190 = .func := by kernel_rfl
@[simp] theorem sz190 : sz Try.prog 190 = 1 := by kernel_rfl
@[simp] theorem byt190 : byt Try.prog 190 = 8 := by kernel_rfl
@[simp] theorem zr190 : zr Try.prog 190 = .nilf := by kernel_rfl
@[simp] theorem td191 : td Try.prog 191 = .func := by kernel_rfl
@[simp] theorem sz191 : sz Try.prog 191 = 1 := by kernel_rfl
@[simp] theorem byt191 : byt Try.prog 191 = 8 := by kernel_rfl
@[simp] theorem zr191 : zr Try.prog 191 = .nilf := by kernel_rfl
@[simp] theorem td192 : td Try.prog 192 = .func := by kernel_rfl
@[simp] theorem sz192 : sz Try.prog 192 = 1 := by kernel_rfl
@[simp] theorem byt192 : byt Try.prog 192 = 8 := by kernel_rfl
@[simp] theorem zr192 : zr Try.prog 192 = .nilf := by kernel_rfl
@[simp] theorem td193 : td Try.prog 193 = .func := by kernel_rfl
@[simp] theorem sz193 : sz Try.prog 193 = 1 := by kernel_rfl
@[simp] theorem byt193 : byt Try.prog 193 = 8 := by kernel_rfl
@[simp] theorem zr193 : zr Try.prog 193 = .nilf := by kernel_rfl
@[simp] theorem td194 : td Try.prog 194 = .array 16 5 := by kernel_rfl
@[simp] theorem sz194 : sz Try.prog 194 = 16 := by kernel_rfl
@[simp] theorem byt194 : byt Try.prog 194 = 16 := by kernel_rfl
@[simp] theorem zr194 : zr Try.prog 194 = .agg ([.int .u8 0, .int .u8 0, .int .u8 0, .int .u8 0, .int .u8 0, .int .u8 0, .int .u8 0, .int .u8 0, .int .u8 0, .int .u8 0, .int .u8 0, .int .u8 0, .int .u8 0, .int .u8 0, .int .u8 0, .int .u8 0]) := by kernel_rfl
@[simp] theorem fl194 : flatT Try.prog 194 = some ([false, false, false, false, false, false, false, false, false, false, false, false, false, false, false, false]) := by kernel_rfl
@[simp] theorem td195 : td Try.prog 195 = .array 24 167 := by kernel_rfl
@[simp] theorem sz195 : sz Try.prog 195 = 96 := by kernel_rfl
@[simp] theorem byt195 : byt Try.prog 195 = 960 := by kernel_rfl
@[simp] theorem zr195 : zr Try.prog 195 = .agg ([.str ByteArray.empty, .int .i64 0, .int .i64 0, .bool false, .str ByteArray.empty, .int .i64 0, .int .i64 0, .bool false, .str ByteArray.empty, .int .i64 0, .int .i64 0, .bool false, .str ByteArray.empty, .int .i64 0, .int .i64 0, .bool false, .str ByteArray.empty, .int .i64 0, .int .i64 0, .bool false, .str ByteArray.empty, .int .i64 0, .int .i64 0, .bool false, .str ByteArray.empty, .int .i64 0, .int .i64 0, .bool false, .str ByteArray.empty, .int .i64 0, .int .i64 0, .bool false, .str ByteArray.empty, .int .i64 0, .int .i64 0, .bool false, .str ByteArray.empty, .int .i64 0, .int .i64 0, .bool false, .str ByteArray.empty, .int .i64 0, .int .i64 0, .bool false, .str ByteArray.empty, .int .i64 0, .int .i64 0, .bool false, .str ByteArray.empty, .int .i64 0, .int .i64 0, .bool false, .str ByteArray.empty, .int .i64 0, .int .i64 0, .bool false, .str ByteArray.empty, .int .i64 0, .int .i64 0, .bool false, .str ByteArray.empty, .int .i64 0, .int .i64 0, .bool false, .str ByteArray.empty, .int .i64 0, .int .i64 0, .bool false, .str ByteArray.empty, .int .i64 0, .int .i64 0, .bool false, .str ByteArray.empty, .int .i64 0, .int .i64 0, .bool false, .str ByteArray.empty, .int .i64 0, .int .i64 0, .bool false, .str ByteArray.empty, .int .i64 0, .int .i64 0, .bool false, .str ByteArray.empty, .int .i64 0, .int .i64 0, .bool false, .str ByteArray.empty, .int .i64 0, .int .i64 0, .bool false, .str ByteArray.empty, .int .i64 0, .int .i64 0, .bool false]) := by kernel_rfl
@[simp] theorem td196 : td Try.prog 196 = .func := by kernel_rfl
@[simp] theorem sz196 : sz Try.prog 196 = 1 := by kernel_rfl
@[simp] theorem byt196 : byt Try.prog 196 = 8 := by kernel_rfl
@[simp] theorem zr196 : zr Try.prog 196 = .nilf := by kernel_rfl
@[simp] theorem td197 : td Try.prog 197 = .func := by kernel_rfl
@[simp] theorem sz197 : sz Try.prog 197 = 1 := by kernel_rfl
@[simp] theorem byt197 : byt Try.prog 197 = 8 := by kernel_rfl
@[simp] theorem zr197 : zr Try.prog 197 = .nilf := by kernel_rfl
@[simp] theorem td198 : td Try.prog 198 = .func := by kernel_rfl
@[simp] theorem sz198 : sz Try.prog 198 = 1 := by kernel_rfl
@[simp] theorem byt198 : byt Try.prog 198 = 8 := by kernel_rfl
@[simp] theorem zr198 : zr Try.prog 198 = .nilf := by kernel_rfl
@[simp] theorem td199 : td Try.prog 199 = .func := by kernel_rfl
@[simp] theorem sz199 : sz Try.prog 199 = 1 := by kernel_rfl
@[simp] theorem byt199 : byt Try.prog 199 = 8 := by kernel_rfl
@[simp] theorem zr199 : zr Try.prog 199 = .nilf := by kernel_rfl
@[simp] theorem td200 : td Try.prog 200 = .func := by kernel_rfl
@[simp] theorem sz200 : sz Try.prog 200 = 1 := by kernel_rfl
@[simp] theorem byt200 : byt Try.prog 200 = 8 := by kernel_rfl
@[simp] theorem zr200 : zr Try.prog 200 = .nilf := by kernel_rfl
@[simp] theorem td201 : td Try.prog 201 = .func := by kernel_rfl
@[simp] theorem sz201 : sz Try.prog 201 = 1 := by kernel_rfl
@[simp] theorem byt201 : byt Try.prog 201 = 8 := by kernel_rfl
@[simp] theorem zr201 : zr Try.prog 201 = .nilf := by kernel_rfl
@[simp] theorem td202 : td Try.prog 202 = .func := by kernel_rfl
@[simp] theorem sz202 : sz Try.prog 202 = 1 := by kernel_rfl
@[simp] theorem byt202 : byt Try.prog 202 = 8 := by kernel_rfl
@[simp] theorem zr202 : zr Try.prog 202 = .nilf := by kernel_rfl
@[simp] theorem td203 : td Try.prog 203 = .func := by kernel_rfl
@[simp] theorem sz203 : sz Try.prog 203 = 1 := by kernel_rfl
@[simp] theorem byt203 : byt Try.prog 203 = 8 := by kernel_rfl
@[simp] theorem zr203 : zr Try.prog 203 = .nilf := by kernel_rfl
@[simp] theorem td204 : td Try.prog 204 = .func := by kernel_rfl
@[simp] theorem sz204 : sz Try.prog 204 = 1 := by kernel_rfl
@[simp] theorem byt204 : byt Try.prog 204 = 8 := by kernel_rfl
@[simp] theorem zr204 : zr Try.prog 204 = .nilf := by kernel_rfl
@[simp] theorem td205 : td Try.prog 205 = .func := by kernel_rfl
@[simp] theorem sz205 : sz Try.prog 205 = 1 := by kernel_rfl
@[simp] theorem byt205 : byt Try.prog 205 = 8 := by kernel_rfl
@[simp] theorem zr205 : zr Try.prog 205 = .nilf := by kernel_rfl
@[simp] theorem td206 : td Try.prog 206 = .func := by kernel_rfl
@[simp] theorem sz206 : sz Try.prog 206 = 1 := by kernel_rfl
@[simp] theorem byt206 : byt Try.prog 206 = 8 := by kernel_rfl
@[simp] theorem zr206 : zr Try.prog 206 = .nilf := by kernel_rfl
@[simp] theorem td207 : td Try.prog 207 = .func := by kernel_rfl
@[simp] theorem sz207 : sz Try.prog 207 = 1 := by kernel_rfl
@[simp] theorem byt207 : byt Try.prog 207 = 8 := by kernel_rfl
@[simp] theorem zr207 : zr Try.prog 207 = .nilf := by kernel_rfl
@[simp] theorem td208 : td Try.prog 208 = .func := by kernel_rfl
@[simp] theorem sz208 : sz Try.prog 208 = 1 := by kernel_rfl
@[simp] theorem byt208 : byt Try.prog 208 = 8 := by kernel_rfl
@[simp] theorem zr208 : zr Try.prog 208 = .nilf := by kernel_rfl
@[simp] theorem td209 : td Try.prog 209 = .func := by kernel_rfl
@[simp] theorem sz209 : sz Try.prog 209 = 1 := by kernel_rfl
@[simp] theorem byt209 : byt Try.prog 209 = 8 := by kernel_rfl
@[simp] theorem zr209 : zr Try.prog 209 = .nilf := by kernel_rfl
@[simp] theorem td210 : td Try.prog 210 = .func := by kernel_rfl
@[simp] theorem sz210 : sz Try.prog 210 = 1 := by kernel_rfl
@[simp] theorem byt210 : byt Try.prog 210 = 8 := by kernel_rfl
@[simp] theorem zr210 : zr Try.prog 210 = .nilf := by kernel_rfl
@[simp] theorem td211 : td Try.prog 211 = .slice 180 := by kernel_rfl
@[simp] theorem sz211 : sz Try.prog 211 = 1 := by kernel_rfl
@[simp] theorem byt211 : byt Try.prog 211 = 24 := by kernel_rfl
@[simp] theorem zr211 : zr Try.prog 211 = .sl true 0 [] := by kernel_rfl
@[simp] theorem td212 : td Try.prog 212 = .func := by kernel_rfl
@[simp] theorem sz212 : sz Try.prog 212 = 1 := by kernel_rfl
@[simp] theorem byt212 : byt Try.prog 212 = 8 := by kernel_rfl
@[simp] theorem zr212 : zr Try.prog 212 = .nilf := by kernel_rfl
@[simp] theorem td213 : td Try.prog 213 = .func := by kernel_rfl
@[simp] theorem sz213 : sz Try.prog 213 = 1 := by kernel_rfl
@[simp] theorem byt213 : byt Try.prog 213 = 8 := by kernel_rfl
@[simp] theorem zr213 : zr Try.prog 213 = .nilf := by kernel_rfl
@[simp] theorem td214 : td Try.prog 214 = .func := by kernel_rfl
@[simp] theorem sz214 : sz Try.prog 214 = 1 := by kernel_rfl
@[simp] theorem byt214 : byt Try.prog 214 = 8 := by kernel_rfl
@[simp] theorem zr214 : zr Try.prog 214 = .nilf := by kernel_rfl
@[simp] theorem td215 : td Try.prog 215 = .func := by kernel_rfl
@[simp] theorem sz215 : sz Try.prog 215 = 1 := by kernel_rfl
@[simp] theorem byt215 : byt Try.prog 215 = 8 := by kernel_rfl
@[simp] theorem zr215 : zr Try.prog 215 = .nilf := by kernel_rfl
@[simp] theorem td216 : td Try.prog 216 = .func := by kernel_rfl
@[simp] theorem sz216 : sz Try.prog 216 = 1 := by kernel_rfl
@[simp] theorem byt216 : byt Try.prog 216 = 8 := by kernel_rfl
@[simp] theorem zr216 : zr Try.prog 216 = .nilf := by kernel_rfl
@[simp] theorem td217 : td Try.prog 217 = .func := by kernel_rfl
@[simp] theorem sz217 : sz Try.prog 217 = 1 := by kernel_rfl
@[simp] theorem byt217 : byt Try.prog 217 = 8 := by kernel_rfl
@[simp] theorem zr217 : zr Try.prog 217 = .nilf := by kernel_rfl
@[simp] theorem td218 : td Try.prog 218 = .func := by kernel_rfl
@[simp] theorem sz218 : sz Try.prog 218 = 1 := by kernel_rfl
@[simp] theorem byt218 : byt Try.prog 218 = 8 := by kernel_rfl
@[simp] theorem zr218 : zr Try.prog 218 = .nilf := by kernel_rfl
@[simp] theorem td219 : td Try.prog 219 = .func := by kernel_rfl
@[simp] theorem sz219 : sz Try.prog 219 = 1 := by kernel_rfl
@[simp] theorem byt219 : byt Try.prog 219 = 8 := by kernel_rfl
@[simp] theorem zr219 : zr Try.prog 219 = .nilf := by kernel_rfl
@[simp] theorem td220 : td Try.prog 220 = .struct [(0, 17), (1, 17), (2, 17), (3, 9)] := by kernel_rfl
@[simp] theorem sz220 : sz Try.prog 220 = 4 := by kernel_rfl
@[simp] theorem byt220 : byt Try.prog 220 = 40 := by kernel_rfl
@[simp] theorem zr220 : zr Try.prog 220 = .agg ([.nilp, .nilp, .nilp, .str ByteArray.empty]) := by kernel_rfl
@[simp] theorem td221 : td Try.prog 221 = .struct [(0, 17), (1, 17), (2, 17), (3, 9)] := by kernel_rfl
@[simp] theorem sz221 : sz Try.prog 221 = 4 := by kernel_rfl
@[simp] theorem byt221 : byt Try.prog 221 = 40 := by kernel_rfl
@[simp] theorem zr221 : zr Try.prog 221 = .agg ([.nilp, .nilp, .nilp, .str ByteArray.empty]) := by kernel_rfl
@[simp] theorem td222 : td Try.prog 222 = .array 0 16 := by kernel_rfl
@[simp] theorem sz222 : sz Try.prog 222 = 0 := by kernel_rfl
@[simp] theorem byt222 : byt Try.prog 222 = 0 := by kernel_rfl
@[simp] theorem zr222 : zr Try.prog 222 = .agg ([]) := by kernel_rfl
@[simp] theorem td223 : td Try.prog 223 = .struct [(0, 222)] := by kernel_rfl
@[simp] theorem sz223 : sz Try.prog 223 = 0 := by kernel_rfl
@[simp] theorem byt223 : byt Try.prog 223 = 0 := by kernel_rfl
@[simp] theorem zr223 : zr Try.prog 223 = .agg ([]) := by kernel_rfl
@[simp] theorem td224 : td Try.prog 224 = .struct [(0, 222)] := by kernel_rfl
@[simp] theorem sz224 : sz Try.prog 224 = 0 := by kernel_rfl
@[simp] theorem byt224 : byt Try.prog 224 = 0 := by kernel_rfl
@[simp] theorem zr224 : zr Try.prog 224 = .agg ([]) := by kernel_rfl
@[simp] theorem td225 : td Try.prog 225 = .func := by kernel_rfl
@[simp] theorem sz225 : sz Try.prog 225 = 1 := by kernel_rfl
@[simp] theorem byt225 : byt Try.prog 225 = 8 := by kernel_rfl
@[simp] theorem zr225 : zr Try.prog 225 = .nilf := by kernel_rfl
@[simp] theorem td226 : td Try.prog 226 = .int .u32 := by kernel_rfl
@[simp] theorem sz226 : sz Try.prog 226 = 1 := by kernel_rfl
@[simp] theorem byt226 : byt Try.prog 226 = 4 := by kernel_rfl
@[simp] theorem zr226 : zr Try.prog 226 = .int .u32 0 := by kernel_rfl
@[simp] theorem td227 : td Try.prog 227 = .int .u8 := by kernel_rfl
@[simp] theorem sz227 : sz Try.prog 227 = 1 := by kernel_rfl
@[simp] theorem byt227 : byt Try.prog 227 = 1 := by kernel_rfl
@[simp] theorem zr227 : zr Try.prog 227 = .int .u8 0 := by kernel_rfl
@[simp] theorem td228 : td Try.prog 228 = .int .u8 := by kernel_rfl
@[simp] theorem sz228 : sz Try.prog 228 = 1 := by kernel_rfl
@[simp] theorem byt228 : byt Try.prog 228 = 1 := by kernel_rfl
@[simp] theorem zr228 : zr Try.prog 228 = .int .u8 0 := by kernel_rfl
@[simp] theorem td229 : td Try.prog 229 = .func := by kernel_rfl
@[simp] theorem sz229 : sz Try.prog 229 = 1 := by kernel_rfl
@[simp] theorem byt229 : byt Try.prog 229 = 8 := by kernel_rfl
@[simp] theorem zr229 : zr Try.prog 229 = .nilf := by kernel_rfl
@[simp] theorem td230 : td Try.prog 230 = .ptr 5 := by kernel_rfl
@[simp] theorem sz230 : sz Try.prog 230 = 1 := by kernel_rfl
@[simp] theorem byt230 : byt Try.prog 230 = 8 := by kernel_rfl
@[simp] theorem zr230 : zr Try.prog 230 = .nilp := by kernel_rfl
@[simp] theorem td231 : td Try.prog 231 = .int .i32 := by kernel_rfl
@[simp] theorem sz231 : sz Try.prog 231 = 1 := by kernel_rfl
@[simp] theorem byt231 : byt Try.prog 231 = 4 := by kernel_rfl
@[simp] theorem zr231 : zr Try.prog 231 = .int .i32 0 := by kernel_rfl
@[simp] theorem td232 : td Try.prog 232 = .int .i32 := by kernel_rfl
@[simp] theorem sz232 : sz Try.prog 232 = 1 := by kernel_rfl
@[simp] theorem byt232 : byt Try.prog 232 = 4 := by kernel_rfl
@[simp] theorem zr232 : zr Try.prog 232 = .int .i32 0 := by kernel_rfl
@[simp] theorem td233 : td Try.prog 233 = .struct [(0, 12), (1, 12), (2, 226), (3, 227), (4, 5), (5, 5), (6, 228), (7, 229), (8, 230), (9, 231), (10, 232)] := by kernel_rfl
@[simp] theorem sz233 : sz Try.prog 233 = 11 := by kernel_rfl
@[simp] theorem byt233 : byt Try.prog 233 = 48 := by kernel_rfl
@[simp] theorem zr233 : zr Try.prog 233 = .agg ([.int .u64 0, .int .u64 0, .int .u32 0, .int .u8 0, .int .u8 0, .int .u8 0, .int .u8 0, .nilf, .nilp, .int .i32 0, .int .i32 0]) := by kernel_rfl
@[simp] theorem td234 : td Try.prog 234 = .struct [(0, 12), (1, 12), (2, 226), (3, 227), (4, 5), (5, 5), (6, 228), (7, 229), (8, 230), (9, 231), (10, 232)] := by kernel_rfl
@[simp] theorem sz234 : sz Try.prog 234 = 11 := by kernel_rfl
@[simp] theorem byt234 : byt Try.prog 234 = 48 := by kernel_rfl
@[simp] theorem zr234 : zr Try.prog 234 = .agg ([.int .u64 0, .int .u64 0, .int .u32 0, .int .u8 0, .int .u8 0, .int .u8 0, .int .u8 0, .nilf, .nilp, .int .i32 0, .int .i32 0]) := by kernel_rfl
end Go.Proofs.Ytbncoeoamjcjjaa
end

section
set_option linter.unusedVariables false
set_option linter.unusedSimpArgs false
set_option maxRecDepth 4000
namespace Go.Proofs.Ytbncoeoamjcjjaa
open Go Go.AI Go.Proofs

theorem cellsOf_sz (t : TypeId) : Try.prog.cellsOf t = sz Try.prog t := rfl
section
variable {H : Type} {enc : TypeId × Value → H} {w : World} {sp : Nat → Bool} {held : Bool}
theorem rdWide : Rd enc Try.prog w sp held 26 Wide.enc := by
  intro fuel cs x h
  obtain ⟨hl, fuel', hf⟩ := trod_struct Try.underlying26 h
  simp only [cellsOf_sz, sz26] at hl
  simp only [List.mem_cons, List.not_mem_nil, or_false, forall_eq_or_imp, forall_eq, cellsOf_sz, sz24] at hf
  match cs, hl, hf with
  | [c0, c1], _, ⟨⟨y0, h0⟩, ⟨y1, h1⟩⟩ =>
    obtain ⟨b0, e0⟩ := rd_u64 Try.underlying24 h0
    obtain ⟨b1, e1⟩ := rd_u64 Try.underlying24 h1
    simp at e0 e1
    subst e0 e1
    exact ⟨⟨b0, b1⟩, by simp [Wide.enc, RelL, Rel], by simp [Ones, Value.oneCell']⟩
theorem rdOxm : Rd enc Try.prog w sp held 28 Oxm.enc := by
  intro fuel cs x h
  obtain ⟨hl, fuel', hf⟩ := trod_struct Try.underlying28 h
  simp only [cellsOf_sz, sz28] at hl
  simp only [List.mem_cons, List.not_mem_nil, or_false, forall_eq_or_imp, forall_eq, cellsOf_sz, sz26, sz3, sz4] at hf
  match cs, hl, hf with
  | [c0, c1, c2, c3, c4, c5], _, ⟨⟨y0, h0⟩, ⟨y1, h1⟩, ⟨y2, h2⟩, ⟨y3, h3⟩⟩ =>
    obtain ⟨n, e0⟩ := rd_int Try.underlying3 h0
    obtain ⟨b, e1⟩ := trod_bool Try.underlying4 h1
    obtain ⟨v, r2, o2⟩ := rdWide fuel' _ y2 h2
    obtain ⟨m, r3, o3⟩ := rdWide fuel' _ y3 h3
    simp at e0 e1
    subst e0 e1
    exact ⟨⟨n, b, v, m⟩, RelL.cons (by simp [Rel]) (RelL.cons (by simp [Rel]) (r2.append r3)), (Ones.append (vs := [_, _]) (by simp [Ones, Value.oneCell']) (o2.append o3))⟩
theorem rdAction : Rd enc Try.prog w sp held 30 Action.enc := by
  intro fuel cs x h
  obtain ⟨hl, fuel', hf⟩ := trod_struct Try.underlying30 h
  simp only [cellsOf_sz, sz30] at hl
  simp only [List.mem_cons, List.not_mem_nil, or_false, forall_eq_or_imp, forall_eq, cellsOf_sz, sz28, sz3] at hf
  match cs, hl, hf with
  | [c0, c1, c2, c3, c4, c5, c6, c7, c8, c9, c10], _, ⟨⟨y0, h0⟩, ⟨y1, h1⟩, ⟨y2, h2⟩, ⟨y3, h3⟩, ⟨y4, h4⟩, ⟨y5, h5⟩⟩ =>
    obtain ⟨n0, e0⟩ := rd_int Try.underlying3 h0
    obtain ⟨n1, e1⟩ := rd_int Try.underlying3 h1
    obtain ⟨n2, e2⟩ := rd_int Try.underlying3 h2
    obtain ⟨n3, e3⟩ := rd_int Try.underlying3 h3
    obtain ⟨n4, e4⟩ := rd_int Try.underlying3 h4
    obtain ⟨o, r5, o5⟩ := rdOxm fuel' _ y5 h5
    simp at e0 e1 e2 e3 e4
    subst e0 e1 e2 e3 e4
    exact ⟨⟨n0, n1, n2, n3, n4, o⟩, RelL.cons (by simp [Rel]) (RelL.cons (by simp [Rel]) (RelL.cons (by simp [Rel]) (RelL.cons (by simp [Rel]) (RelL.cons (by simp [Rel]) r5)))), (Ones.append (vs := [_, _, _, _, _]) (by simp [Ones, Value.oneCell']) o5)⟩
end
end Go.Proofs.Ytbncoeoamjcjjaa
end

section
set_option linter.unusedVariables false
set_option linter.unusedSimpArgs false
namespace Go.Proofs.Ytbncoeoamjcjjaa
open Go Go.AI Go.Proofs Go.Proofs.Ytbncoeoamjcjjaa
theorem law_own : ownKnob Try.prog.godebug = none := by kernel_rfl
theorem law_laid : laidOutB Try.prog = true := by kernel_rfl
def zeroCells (n : Nat) : Array Value := (List.replicate n (Value.int .u64 0)).toArray
end Go.Proofs.Ytbncoeoamjcjjaa
end

section
set_option linter.unusedVariables false
set_option linter.unusedSimpArgs false
namespace Go.Proofs.Ytbncoeoamjcjjaa
open Go Go.AI Go.Proofs

theorem and_c (a b : Wide) : FnP Try.prog 215 [.agg a.enc, .agg b.enc] (.agg (a.and b).enc) := by
  refine FnP.intro Try.func215 rfl rfl fun G w => ?_
  repeat (first | refine WK.seq ?_ | refine WK.block ?_ | refine WK.inBlock ?_ | refine WK.skip ?_ | refine WK.label ?_ | refine WK.scope ?_ | refine WK.inScope ?_ | refine WK.exit rfl ?_)
  first | refine WK.reg 100 Try.ntmps215 (by kernel_rfl) ?_ | refine WK.regD 100 clsOf (by kernel_rfl) Try.ntmps215 (by kernel_rfl) (by kernel_rfl) ?_
  intro A hA Q hQ
  simp
  refine hQ _ _ ?_
  clear hQ hA
  repeat (first | refine WK.seq ?_ | refine WK.block ?_ | refine WK.inBlock ?_ | refine WK.skip ?_ | refine WK.label ?_ | refine WK.scope ?_ | refine WK.inScope ?_ | refine WK.exit rfl ?_)
  first | refine WK.reg 200 Try.ntmps215 (by kernel_rfl) ?_ | refine WK.regD 200 clsOf (by kernel_rfl) Try.ntmps215 (by kernel_rfl) (by kernel_rfl) ?_
  intro A hA Q hQ
  simp [Wide.enc]
  refine hQ _ _ ?_
  clear hQ hA
  repeat (first | refine WK.seq ?_ | refine WK.block ?_ | refine WK.inBlock ?_ | refine WK.skip ?_ | refine WK.label ?_ | refine WK.scope ?_ | refine WK.inScope ?_ | refine WK.exit rfl ?_)
  refine WK.ret Try.func215 (by simp (maxDischargeDepth := 120) [Try.results215, Wide.enc, Wide.and]) (by simp [Wide.enc, Wide.and])
theorem or_c (a b : Wide) : FnP Try.prog 193 [.agg a.enc, .agg b.enc] (.agg (a.or b).enc) := by
  refine FnP.intro Try.func193 rfl rfl fun G w => ?_
  repeat (first | refine WK.seq ?_ | refine WK.block ?_ | refine WK.inBlock ?_ | refine WK.skip ?_ | refine WK.label ?_ | refine WK.scope ?_ | refine WK.inScope ?_ | refine WK.exit rfl ?_)
  first | refine WK.reg 100 Try.ntmps193 (by kernel_rfl) ?_ | refine WK.regD 100 clsOf (by kernel_rfl) Try.ntmps193 (by kernel_rfl) (by kernel_rfl) ?_
  intro A hA Q hQ
  simp
  refine hQ _ _ ?_
  clear hQ hA
  repeat (first | refine WK.seq ?_ | refine WK.block ?_ | refine WK.inBlock ?_ | refine WK.skip ?_ | refine WK.label ?_ | refine WK.scope ?_ | refine WK.inScope ?_ | refine WK.exit rfl ?_)
  first | refine WK.reg 200 Try.ntmps193 (by kernel_rfl) ?_ | refine WK.regD 200 clsOf (by kernel_rfl) Try.ntmps193 (by kernel_rfl) (by kernel_rfl) ?_
  intro A hA Q hQ
  simp [Wide.enc]
  refine hQ _ _ ?_
  clear hQ hA
  repeat (first | refine WK.seq ?_ | refine WK.block ?_ | refine WK.inBlock ?_ | refine WK.skip ?_ | refine WK.label ?_ | refine WK.scope ?_ | refine WK.inScope ?_ | refine WK.exit rfl ?_)
  refine WK.ret Try.func193 (by simp (maxDischargeDepth := 120) [Try.results193, Wide.enc, Wide.or]) (by simp [Wide.enc, Wide.or])
theorem less_c (a b : Wide) : FnP Try.prog 170 [.agg a.enc, .agg b.enc] (.agg (a.less b).enc) := by
  refine FnP.intro Try.func170 rfl rfl fun G w => ?_
  repeat (first | refine WK.seq ?_ | refine WK.block ?_ | refine WK.inBlock ?_ | refine WK.skip ?_ | refine WK.label ?_ | refine WK.scope ?_ | refine WK.inScope ?_ | refine WK.exit rfl ?_)
  first | refine WK.reg 100 Try.ntmps170 (by kernel_rfl) ?_ | refine WK.regD 100 clsOf (by kernel_rfl) Try.ntmps170 (by kernel_rfl) (by kernel_rfl) ?_
  intro A hA Q hQ
  simp
  refine hQ _ _ ?_
  clear hQ hA
  repeat (first | refine WK.seq ?_ | refine WK.block ?_ | refine WK.inBlock ?_ | refine WK.skip ?_ | refine WK.label ?_ | refine WK.scope ?_ | refine WK.inScope ?_ | refine WK.exit rfl ?_)
  first | refine WK.reg 200 Try.ntmps170 (by kernel_rfl) ?_ | refine WK.regD 200 clsOf (by kernel_rfl) Try.ntmps170 (by kernel_rfl) (by kernel_rfl) ?_
  intro A hA Q hQ
  simp [Wide.enc]
  refine hQ _ _ ?_
  clear hQ hA
  repeat (first | refine WK.seq ?_ | refine WK.block ?_ | refine WK.inBlock ?_ | refine WK.skip ?_ | refine WK.label ?_ | refine WK.scope ?_ | refine WK.inScope ?_ | refine WK.exit rfl ?_)
  refine WK.ret Try.func170 (by simp (maxDischargeDepth := 120) [Try.results170, Wide.enc, Wide.less]) (by simp [Wide.enc, Wide.less])
theorem rand_c (a b : Wide) : FnP Try.prog 229 [.agg a.enc, .agg b.enc] (.agg (a.and b).enc) := by
  refine FnP.intro Try.func229 rfl rfl fun G w => ?_
  repeat (first | refine WK.seq ?_ | refine WK.block ?_ | refine WK.inBlock ?_ | refine WK.skip ?_ | refine WK.label ?_ | refine WK.scope ?_ | refine WK.inScope ?_ | refine WK.exit rfl ?_)
  first | refine WK.reg 100 Try.ntmps229 (by kernel_rfl) ?_ | refine WK.regD 100 clsOf (by kernel_rfl) Try.ntmps229 (by kernel_rfl) (by kernel_rfl) ?_
  intro A hA Q hQ
  simp
  refine hQ _ _ ?_
  clear hQ hA
  repeat (first | refine WK.seq ?_ | refine WK.block ?_ | refine WK.inBlock ?_ | refine WK.skip ?_ | refine WK.label ?_ | refine WK.scope ?_ | refine WK.inScope ?_ | refine WK.exit rfl ?_)
  first | refine WK.reg 200 Try.ntmps229 (by kernel_rfl) ?_ | refine WK.regD 200 clsOf (by kernel_rfl) Try.ntmps229 (by kernel_rfl) (by kernel_rfl) ?_
  intro A hA Q hQ
  simp [Wide.enc]
  refine hQ _ _ ?_
  clear hQ hA
  repeat (first | refine WK.seq ?_ | refine WK.block ?_ | refine WK.inBlock ?_ | refine WK.skip ?_ | refine WK.label ?_ | refine WK.scope ?_ | refine WK.inScope ?_ | refine WK.exit rfl ?_)
  refine WK.ret Try.func229 (by simp (maxDischargeDepth := 120) [Try.results229, Wide.enc, Wide.and]) (by simp [Wide.enc, Wide.and])
theorem ror_c (a b : Wide) : FnP Try.prog 155 [.agg a.enc, .agg b.enc] (.agg (a.or b).enc) := by
  refine FnP.intro Try.func155 rfl rfl fun G w => ?_
  repeat (first | refine WK.seq ?_ | refine WK.block ?_ | refine WK.inBlock ?_ | refine WK.skip ?_ | refine WK.label ?_ | refine WK.scope ?_ | refine WK.inScope ?_ | refine WK.exit rfl ?_)
  first | refine WK.reg 100 Try.ntmps155 (by kernel_rfl) ?_ | refine WK.regD 100 clsOf (by kernel_rfl) Try.ntmps155 (by kernel_rfl) (by kernel_rfl) ?_
  intro A hA Q hQ
  simp
  refine hQ _ _ ?_
  clear hQ hA
  repeat (first | refine WK.seq ?_ | refine WK.block ?_ | refine WK.inBlock ?_ | refine WK.skip ?_ | refine WK.label ?_ | refine WK.scope ?_ | refine WK.inScope ?_ | refine WK.exit rfl ?_)
  first | refine WK.reg 200 Try.ntmps155 (by kernel_rfl) ?_ | refine WK.regD 200 clsOf (by kernel_rfl) Try.ntmps155 (by kernel_rfl) (by kernel_rfl) ?_
  intro A hA Q hQ
  simp [Wide.enc]
  refine hQ _ _ ?_
  clear hQ hA
  repeat (first | refine WK.seq ?_ | refine WK.block ?_ | refine WK.inBlock ?_ | refine WK.skip ?_ | refine WK.label ?_ | refine WK.scope ?_ | refine WK.inScope ?_ | refine WK.exit rfl ?_)
  refine WK.ret Try.func155 (by simp (maxDischargeDepth := 120) [Try.results155, Wide.enc, Wide.or]) (by simp [Wide.enc, Wide.or])
theorem rless_c (a b : Wide) : FnP Try.prog 133 [.agg a.enc, .agg b.enc] (.agg (a.less b).enc) := by
  refine FnP.intro Try.func133 rfl rfl fun G w => ?_
  repeat (first | refine WK.seq ?_ | refine WK.block ?_ | refine WK.inBlock ?_ | refine WK.skip ?_ | refine WK.label ?_ | refine WK.scope ?_ | refine WK.inScope ?_ | refine WK.exit rfl ?_)
  first | refine WK.reg 100 Try.ntmps133 (by kernel_rfl) ?_ | refine WK.regD 100 clsOf (by kernel_rfl) Try.ntmps133 (by kernel_rfl) (by kernel_rfl) ?_
  intro A hA Q hQ
  simp
  refine hQ _ _ ?_
  clear hQ hA
  repeat (first | refine WK.seq ?_ | refine WK.block ?_ | refine WK.inBlock ?_ | refine WK.skip ?_ | refine WK.label ?_ | refine WK.scope ?_ | refine WK.inScope ?_ | refine WK.exit rfl ?_)
  first | refine WK.reg 200 Try.ntmps133 (by kernel_rfl) ?_ | refine WK.regD 200 clsOf (by kernel_rfl) Try.ntmps133 (by kernel_rfl) (by kernel_rfl) ?_
  intro A hA Q hQ
  simp [Wide.enc]
  refine hQ _ _ ?_
  clear hQ hA
  repeat (first | refine WK.seq ?_ | refine WK.block ?_ | refine WK.inBlock ?_ | refine WK.skip ?_ | refine WK.label ?_ | refine WK.scope ?_ | refine WK.inScope ?_ | refine WK.exit rfl ?_)
  refine WK.ret Try.func133 (by simp (maxDischargeDepth := 120) [Try.results133, Wide.enc, Wide.less]) (by simp [Wide.enc, Wide.less])
theorem clean_c (t : Tern) : FnP Try.prog 192 [.agg t.enc] (.agg t.clean.enc) := by
  refine FnP.intro Try.func192 rfl rfl fun G w => ?_
  repeat (first | refine WK.seq ?_ | refine WK.block ?_ | refine WK.inBlock ?_ | refine WK.skip ?_ | refine WK.label ?_ | refine WK.scope ?_ | refine WK.inScope ?_ | refine WK.exit rfl ?_)
  first | refine WK.reg 100 Try.ntmps192 (by kernel_rfl) ?_ | refine WK.regD 100 clsOf (by kernel_rfl) Try.ntmps192 (by kernel_rfl) (by kernel_rfl) ?_
  intro A hA Q hQ
  simp
  refine hQ _ _ ?_
  clear hQ hA
  repeat (first | refine WK.seq ?_ | refine WK.block ?_ | refine WK.inBlock ?_ | refine WK.skip ?_ | refine WK.label ?_ | refine WK.scope ?_ | refine WK.inScope ?_ | refine WK.exit rfl ?_)
  first | refine WK.reg 200 Try.ntmps192 (by kernel_rfl) ?_ | refine WK.regD 200 clsOf (by kernel_rfl) Try.ntmps192 (by kernel_rfl) (by kernel_rfl) ?_
  intro A hA Q hQ
  simp [Tern.enc]
  refine RunQ.call rfl rfl rfl rfl (by rfl) (by simp (maxDischargeDepth := 120) [Wide.enc]) (and_c t.value t.mask) (by simp [Wide.enc]) ?_
  refine RunQ.eval ?_
  simp [Wide.enc]
  refine hQ _ _ ?_
  clear hQ hA
  repeat (first | refine WK.seq ?_ | refine WK.block ?_ | refine WK.inBlock ?_ | refine WK.skip ?_ | refine WK.label ?_ | refine WK.scope ?_ | refine WK.inScope ?_ | refine WK.exit rfl ?_)
  refine WK.ret Try.func192 (by simp (maxDischargeDepth := 120) [Try.results192, Tern.enc, Tern.clean]) (by simp [Tern.enc, Tern.clean])
theorem rclean_c (t : Tern) : FnP Try.prog 219 [.agg t.enc] (.agg t.clean.enc) := by
  refine FnP.intro Try.func219 rfl rfl fun G w => ?_
  repeat (first | refine WK.seq ?_ | refine WK.block ?_ | refine WK.inBlock ?_ | refine WK.skip ?_ | refine WK.label ?_ | refine WK.scope ?_ | refine WK.inScope ?_ | refine WK.exit rfl ?_)
  first | refine WK.reg 100 Try.ntmps219 (by kernel_rfl) ?_ | refine WK.regD 100 clsOf (by kernel_rfl) Try.ntmps219 (by kernel_rfl) (by kernel_rfl) ?_
  intro A hA Q hQ
  simp
  refine hQ _ _ ?_
  clear hQ hA
  repeat (first | refine WK.seq ?_ | refine WK.block ?_ | refine WK.inBlock ?_ | refine WK.skip ?_ | refine WK.label ?_ | refine WK.scope ?_ | refine WK.inScope ?_ | refine WK.exit rfl ?_)
  first | refine WK.reg 200 Try.ntmps219 (by kernel_rfl) ?_ | refine WK.regD 200 clsOf (by kernel_rfl) Try.ntmps219 (by kernel_rfl) (by kernel_rfl) ?_
  intro A hA Q hQ
  simp [Tern.enc]
  refine RunQ.call rfl rfl rfl rfl (by rfl) (by simp (maxDischargeDepth := 120) [Wide.enc]) (rand_c t.value t.mask) (by simp [Wide.enc]) ?_
  refine RunQ.eval ?_
  simp [Wide.enc]
  refine hQ _ _ ?_
  clear hQ hA
  repeat (first | refine WK.seq ?_ | refine WK.block ?_ | refine WK.inBlock ?_ | refine WK.skip ?_ | refine WK.label ?_ | refine WK.scope ?_ | refine WK.inScope ?_ | refine WK.exit rfl ?_)
  refine WK.ret Try.func219 (by simp (maxDischargeDepth := 120) [Try.results219, Tern.enc, Tern.clean]) (by simp [Tern.enc, Tern.clean])
end Go.Proofs.Ytbncoeoamjcjjaa
end
