/- The facts of the types of the program that the claim is about: how many cells and bytes a value has, which parts, which zero value, and which values are compared cell by cell. -/
import Derived.Test.YtibaiiibjnnlkaaProg
import Derived.Test.YtibaiiibjnnlkaaDa
import Derived.Test.YtibaiiibjnnlkaaRows
set_option linter.all false
set_option linter.unnecessarySimpa false
section
set_option linter.unusedVariables false
namespace Go.Proofs.Ytibaiiibjnnlkaa
open Go Go.AI Go.Proofs
@[simp] theorem td1 : td Try.prog 1 = .func := by kernel_rfl
@[simp] theorem sz1 : sz Try.prog 1 = 1 := by kernel_rfl
@[simp] theorem byt1 : byt Try.prog 1 = 8 := by kernel_rfl
@[simp] theorem zr1 : zr Try.prog 1 = .nilf := by kernel_rfl
@[simp] theorem td2 : td Try.prog 2 = .int .i64 := by kernel_rfl
@[simp] theorem sz2 : sz Try.prog 2 = 1 := by kernel_rfl
@[simp] theorem byt2 : byt Try.prog 2 = 8 := by kernel_rfl
@[simp] theorem zr2 : zr Try.prog 2 = .int .i64 0 := by kernel_rfl
@[simp] theorem td3 : td Try.prog 3 = .int .i64 := by kernel_rfl
@[simp] theorem sz3 : sz Try.prog 3 = 1 := by kernel_rfl
@[simp] theorem byt3 : byt Try.prog 3 = 8 := by kernel_rfl
@[simp] theorem zr3 : zr Try.prog 3 = .int .i64 0 := by kernel_rfl
@[simp] theorem td4 : td Try.prog 4 = .bool := by kernel_rfl
@[simp] theorem sz4 : sz Try.prog 4 = 1 := by kernel_rfl
@[simp] theorem byt4 : byt Try.prog 4 = 1 := by kernel_rfl
@[simp] theorem zr4 : zr Try.prog 4 = .bool false := by kernel_rfl
@[simp] theorem td5 : td Try.prog 5 = .int .u8 := by kernel_rfl
@[simp] theorem sz5 : sz Try.prog 5 = 1 := by kernel_rfl
@[simp] theorem byt5 : byt Try.prog 5 = 1 := by kernel_rfl
@[simp] theorem zr5 : zr Try.prog 5 = .int .u8 0 := by kernel_rfl
@[simp] theorem td6 : td Try.prog 6 = .int .u8 := by kernel_rfl
@[simp] theorem sz6 : sz Try.prog 6 = 1 := by kernel_rfl
@[simp] theorem byt6 : byt Try.prog 6 = 1 := by kernel_rfl
@[simp] theorem zr6 : zr Try.prog 6 = .int .u8 0 := by kernel_rfl
@[simp] theorem td7 : td Try.prog 7 = .struct [(0, 2), (1, 3), (2, 4), (3, 6)] := by kernel_rfl
@[simp] theorem sz7 : sz Try.prog 7 = 4 := by kernel_rfl
@[simp] theorem byt7 : byt Try.prog 7 = 24 := by kernel_rfl
@[simp] theorem zr7 : zr Try.prog 7 = .agg ([.int .i64 0, .int .i64 0, .bool false, .int .u8 0]) := by kernel_rfl
@[simp] theorem fl7 : flatT Try.prog 7 = some ([false, false, true, false]) := by kernel_rfl
@[simp] theorem td8 : td Try.prog 8 = .struct [(0, 2), (1, 3), (2, 4), (3, 6)] := by kernel_rfl
@[simp] theorem sz8 : sz Try.prog 8 = 4 := by kernel_rfl
@[simp] theorem byt8 : byt Try.prog 8 = 24 := by kernel_rfl
@[simp] theorem zr8 : zr Try.prog 8 = .agg ([.int .i64 0, .int .i64 0, .bool false, .int .u8 0]) := by kernel_rfl
@[simp] theorem fl8 : flatT Try.prog 8 = some ([false, false, true, false]) := by kernel_rfl
@[simp] theorem td9 : td Try.prog 9 = .string := by kernel_rfl
@[simp] theorem sz9 : sz Try.prog 9 = 1 := by kernel_rfl
@[simp] theorem byt9 : byt Try.prog 9 = 16 := by kernel_rfl
@[simp] theorem zr9 : zr Try.prog 9 = .str ByteArray.empty := by kernel_rfl
@[simp] theorem td10 : td Try.prog 10 = .string := by kernel_rfl
@[simp] theorem sz10 : sz Try.prog 10 = 1 := by kernel_rfl
@[simp] theorem byt10 : byt Try.prog 10 = 16 := by kernel_rfl
@[simp] theorem zr10 : zr Try.prog 10 = .str ByteArray.empty := by kernel_rfl
@[simp] theorem td11 : td Try.prog 11 = .string := by kernel_rfl
@[simp] theorem sz11 : sz Try.prog 11 = 1 := by kernel_rfl
@[simp] theorem byt11 : byt Try.prog 11 = 16 := by kernel_rfl
@[simp] theorem zr11 : zr Try.prog 11 = .str ByteArray.empty := by kernel_rfl
@[simp] theorem td12 : td Try.prog 12 = .int .u64 := by kernel_rfl
@[simp] theorem sz12 : sz Try.prog 12 = 1 := by kernel_rfl
@[simp] theorem byt12 : byt Try.prog 12 = 8 := by kernel_rfl
@[simp] theorem zr12 : zr Try.prog 12 = .int .u64 0 := by kernel_rfl
@[simp] theorem td13 : td Try.prog 13 = .struct [(0, 9), (1, 12)] := by kernel_rfl
@[simp] theorem sz13 : sz Try.prog 13 = 2 := by kernel_rfl
@[simp] theorem byt13 : byt Try.prog 13 = 24 := by kernel_rfl
@[simp] theorem zr13 : zr Try.prog 13 = .agg ([.str ByteArray.empty, .int .u64 0]) := by kernel_rfl
@[simp] theorem td14 : td Try.prog 14 = .struct [(0, 9), (1, 12)] := by kernel_rfl
@[simp] theorem sz14 : sz Try.prog 14 = 2 := by kernel_rfl
@[simp] theorem byt14 : byt Try.prog 14 = 24 := by kernel_rfl
@[simp] theorem zr14 : zr Try.prog 14 = .agg ([.str ByteArray.empty, .int .u64 0]) := by kernel_rfl
@[simp] theorem td15 : td Try.prog 15 = .ptr 151 := by kernel_rfl
@[simp] theorem sz15 : sz Try.prog 15 = 1 := by kernel_rfl
@[simp] theorem byt15 : byt Try.prog 15 = 8 := by kernel_rfl
@[simp] theorem zr15 : zr Try.prog 15 = .nilp := by kernel_rfl
@[simp] theorem td16 : td Try.prog 16 = .ptr 154 := by kernel_rfl
@[simp] theorem sz16 : sz Try.prog 16 = 1 := by kernel_rfl
@[simp] theorem byt16 : byt Try.prog 16 = 8 := by kernel_rfl
@[simp] theorem zr16 : zr Try.prog 16 = .nilp := by kernel_rfl
@[simp] theorem td17 : td Try.prog 17 = .ptr 164 := by kernel_rfl
@[simp] theorem sz17 : sz Try.prog 17 = 1 := by kernel_rfl
@[simp] theorem byt17 : byt Try.prog 17 = 8 := by kernel_rfl
@[simp] theorem zr17 : zr Try.prog 17 = .nilp := by kernel_rfl
@[simp] theorem td18 : td Try.prog 18 = .struct [(0, 17)] := by kernel_rfl
@[simp] theorem sz18 : sz Try.prog 18 = 1 := by kernel_rfl
@[simp] theorem byt18 : byt Try.prog 18 = 8 := by kernel_rfl
@[simp] theorem zr18 : zr Try.prog 18 = .agg ([.nilp]) := by kernel_rfl
@[simp] theorem td19 : td Try.prog 19 = .struct [(0, 17)] := by kernel_rfl
@[simp] theorem sz19 : sz Try.prog 19 = 1 := by kernel_rfl
@[simp] theorem byt19 : byt Try.prog 19 = 8 := by kernel_rfl
@[simp] theorem zr19 : zr Try.prog 19 = .agg ([.nilp]) := by kernel_rfl
@[simp] theorem td20 : td Try.prog 20 = .iface true := by kernel_rfl
@[simp] theorem sz20 : sz Try.prog 20 = 1 := by kernel_rfl
@[simp] theorem byt20 : byt Try.prog 20 = 16 := by kernel_rfl
@[simp] theorem zr20 : zr Try.prog 20 = .niface := by kernel_rfl
@[simp] theorem td21 : td Try.prog 21 = .int .i32 := by kernel_rfl
@[simp] theorem sz21 : sz Try.prog 21 = 1 := by kernel_rfl
@[simp] theorem byt21 : byt Try.prog 21 = 4 := by kernel_rfl
@[simp] theorem zr21 : zr Try.prog 21 = .int .i32 0 := by kernel_rfl
@[simp] theorem td22 : td Try.prog 22 = .int .u64 := by kernel_rfl
@[simp] theorem sz22 : sz Try.prog 22 = 1 := by kernel_rfl
@[simp] theorem byt22 : byt Try.prog 22 = 8 := by kernel_rfl
@[simp] theorem zr22 : zr Try.prog 22 = .int .u64 0 := by kernel_rfl
@[simp] theorem td23 : td Try.prog 23 = .slice 44 := by kernel_rfl
@[simp] theorem sz23 : sz Try.prog 23 = 1 := by kernel_rfl
@[simp] theorem byt23 : byt Try.prog 23 = 24 := by kernel_rfl
@[simp] theorem zr23 : zr Try.prog 23 = .sl true 0 [] := by kernel_rfl
@[simp] theorem td24 : td Try.prog 24 = .slice 47 := by kernel_rfl
@[simp] theorem sz24 : sz Try.prog 24 = 1 := by kernel_rfl
@[simp] theorem byt24 : byt Try.prog 24 = 24 := by kernel_rfl
@[simp] theorem zr24 : zr Try.prog 24 = .sl true 0 [] := by kernel_rfl
@[simp] theorem td25 : td Try.prog 25 = .struct [(0, 22), (1, 22), (2, 3), (3, 3), (4, 3), (5, 3), (6, 3), (7, 3), (8, 3), (9, 3), (10, 3), (11, 23), (12, 24)] := by kernel_rfl
@[simp] theorem sz25 : sz Try.prog 25 = 13 := by kernel_rfl
@[simp] theorem byt25 : byt Try.prog 25 = 136 := by kernel_rfl
@[simp] theorem zr25 : zr Try.prog 25 = .agg ([.int .u64 0, .int .u64 0, .int .i64 0, .int .i64 0, .int .i64 0, .int .i64 0, .int .i64 0, .int .i64 0, .int .i64 0, .int .i64 0, .int .i64 0, .sl true 0 [], .sl true 0 []]) := by kernel_rfl
@[simp] theorem td26 : td Try.prog 26 = .struct [(0, 22), (1, 22), (2, 3), (3, 3), (4, 3), (5, 3), (6, 3), (7, 3), (8, 3), (9, 3), (10, 3), (11, 23), (12, 24)] := by kernel_rfl
@[simp] theorem sz26 : sz Try.prog 26 = 13 := by kernel_rfl
@[simp] theorem byt26 : byt Try.prog 26 = 136 := by kernel_rfl
@[simp] theorem zr26 : zr Try.prog 26 = .agg ([.int .u64 0, .int .u64 0, .int .i64 0, .int .i64 0, .int .i64 0, .int .i64 0, .int .i64 0, .int .i64 0, .int .i64 0, .int .i64 0, .int .i64 0, .sl true 0 [], .sl true 0 []]) := by kernel_rfl
@[simp] theorem td27 : td Try.prog 27 = .slice 5 := by kernel_rfl
@[simp] theorem sz27 : sz Try.prog 27 = 1 := by kernel_rfl
@[simp] theorem byt27 : byt Try.prog 27 = 24 := by kernel_rfl
@[simp] theorem zr27 : zr Try.prog 27 = .sl true 0 [] := by kernel_rfl
@[simp] theorem td28 : td Try.prog 28 = .func := by kernel_rfl
@[simp] theorem sz28 : sz Try.prog 28 = 1 := by kernel_rfl
@[simp] theorem byt28 : byt Try.prog 28 = 8 := by kernel_rfl
@[simp] theorem zr28 : zr Try.prog 28 = .nilf := by kernel_rfl
@[simp] theorem td29 : td Try.prog 29 = .func := by kernel_rfl
@[simp] theorem sz29 : sz Try.prog 29 = 1 := by kernel_rfl
@[simp] theorem byt29 : byt Try.prog 29 = 8 := by kernel_rfl
@[simp] theorem zr29 : zr Try.prog 29 = .nilf := by kernel_rfl
@[simp] theorem td30 : td Try.prog 30 = .int .i64 := by kernel_rfl
@[simp] theorem sz30 : sz Try.prog 30 = 1 := by kernel_rfl
@[simp] theorem byt30 : byt Try.prog 30 = 8 := by kernel_rfl
@[simp] theorem zr30 : zr Try.prog 30 = .int .i64 0 := by kernel_rfl
@[simp] theorem td32 : td Try.prog 32 = .func := by kernel_rfl
@[simp] theorem sz32 : sz Try.prog 32 = 1 := by kernel_rfl
@[simp] theorem byt32 : byt Try.prog 32 = 8 := by kernel_rfl
@[simp] theorem zr32 : zr Try.prog 32 = .nilf := by kernel_rfl
@[simp] theorem td33 : td Try.prog 33 = .struct [(0, 4), (1, 3), (2, 3)] := by kernel_rfl
@[simp] theorem sz33 : sz Try.prog 33 = 3 := by kernel_rfl
@[simp] theorem byt33 : byt Try.prog 33 = 24 := by kernel_rfl
@[simp] theorem zr33 : zr Try.prog 33 = .agg ([.bool false, .int .i64 0, .int .i64 0]) := by kernel_rfl
@[simp] theorem fl33 : flatT Try.prog 33 = some ([true, false, false]) := by kernel_rfl
@[simp] theorem td34 : td Try.prog 34 = .struct [(0, 4), (1, 3), (2, 3)] := by kernel_rfl
@[simp] theorem sz34 : sz Try.prog 34 = 3 := by kernel_rfl
@[simp] theorem byt34 : byt Try.prog 34 = 24 := by kernel_rfl
@[simp] theorem zr34 : zr Try.prog 34 = .agg ([.bool false, .int .i64 0, .int .i64 0]) := by kernel_rfl
@[simp] theorem fl34 : flatT Try.prog 34 = some ([true, false, false]) := by kernel_rfl
@[simp] theorem td36 : td Try.prog 36 = .func := by kernel_rfl
@[simp] theorem sz36 : sz Try.prog 36 = 1 := by kernel_rfl
@[simp] theorem byt36 : byt Try.prog 36 = 8 := by kernel_rfl
@[simp] theorem zr36 : zr Try.prog 36 = .nilf := by kernel_rfl
@[simp] theorem td37 : td Try.prog 37 = .func := by kernel_rfl
@[simp] theorem sz37 : sz Try.prog 37 = 1 := by kernel_rfl
@[simp] theorem byt37 : byt Try.prog 37 = 8 := by kernel_rfl
@[simp] theorem zr37 : zr Try.prog 37 = .nilf := by kernel_rfl
@[simp] theorem td38 : td Try.prog 38 = .func := by kernel_rfl
@[simp] theorem sz38 : sz Try.prog 38 = 1 := by kernel_rfl
@[simp] theorem byt38 : byt Try.prog 38 = 8 := by kernel_rfl
@[simp] theorem zr38 : zr Try.prog 38 = .nilf := by kernel_rfl
@[simp] theorem td39 : td Try.prog 39 = .func := by kernel_rfl
@[simp] theorem sz39 : sz Try.prog 39 = 1 := by kernel_rfl
@[simp] theorem byt39 : byt Try.prog 39 = 8 := by kernel_rfl
@[simp] theorem zr39 : zr Try.prog 39 = .nilf := by kernel_rfl
@[simp] theorem td40 : td Try.prog 40 = .func := by kernel_rfl
@[simp] theorem sz40 : sz Try.prog 40 = 1 := by kernel_rfl
@[simp] theorem byt40 : byt Try.prog 40 = 8 := by kernel_rfl
@[simp] theorem zr40 : zr Try.prog 40 = .nilf := by kernel_rfl
@[simp] theorem td41 : td Try.prog 41 = .struct [(0, 22), (1, 22)] := by kernel_rfl
@[simp] theorem sz41 : sz Try.prog 41 = 2 := by kernel_rfl
@[simp] theorem byt41 : byt Try.prog 41 = 16 := by kernel_rfl
@[simp] theorem zr41 : zr Try.prog 41 = .agg ([.int .u64 0, .int .u64 0]) := by kernel_rfl
@[simp] theorem fl41 : flatT Try.prog 41 = some ([false, false]) := by kernel_rfl
@[simp] theorem td42 : td Try.prog 42 = .struct [(0, 22), (1, 22)] := by kernel_rfl
@[simp] theorem sz42 : sz Try.prog 42 = 2 := by kernel_rfl
@[simp] theorem byt42 : byt Try.prog 42 = 16 := by kernel_rfl
@[simp] theorem zr42 : zr Try.prog 42 = .agg ([.int .u64 0, .int .u64 0]) := by kernel_rfl
@[simp] theorem fl42 : flatT Try.prog 42 = some ([false, false]) := by kernel_rfl
@[simp] theorem td43 : td Try.prog 43 = .struct [(0, 3), (1, 4), (2, 42), (4, 42)] := by kernel_rfl
@[simp] theorem sz43 : sz Try.prog 43 = 6 := by kernel_rfl
@[simp] theorem byt43 : byt Try.prog 43 = 48 := by kernel_rfl
@[simp] theorem zr43 : zr Try.prog 43 = .agg ([.int .i64 0, .bool false, .int .u64 0, .int .u64 0, .int .u64 0, .int .u64 0]) := by kernel_rfl
@[simp] theorem fl43 : flatT Try.prog 43 = some ([false, true, false, false, false, false]) := by kernel_rfl
@[simp] theorem td44 : td Try.prog 44 = .struct [(0, 3), (1, 4), (2, 42), (4, 42)] := by kernel_rfl
@[simp] theorem sz44 : sz Try.prog 44 = 6 := by kernel_rfl
@[simp] theorem byt44 : byt Try.prog 44 = 48 := by kernel_rfl
@[simp] theorem zr44 : zr Try.prog 44 = .agg ([.int .i64 0, .bool false, .int .u64 0, .int .u64 0, .int .u64 0, .int .u64 0]) := by kernel_rfl
@[simp] theorem fl44 : flatT Try.prog 44 = some ([false, true, false, false, false, false]) := by kernel_rfl
@[simp] theorem td45 : td Try.prog 45 = .slice 100 := by kernel_rfl
@[simp] theorem sz45 : sz Try.prog 45 = 1 := by kernel_rfl
@[simp] theorem byt45 : byt Try.prog 45 = 24 := by kernel_rfl
@[simp] theorem zr45 : zr Try.prog 45 = .sl true 0 [] := by kernel_rfl
@[simp] theorem td46 : td Try.prog 46 = .struct [(0, 3), (1, 3), (2, 42), (4, 42), (6, 45)] := by kernel_rfl
@[simp] theorem sz46 : sz Try.prog 46 = 7 := by kernel_rfl
@[simp] theorem byt46 : byt Try.prog 46 = 72 := by kernel_rfl
@[simp] theorem zr46 : zr Try.prog 46 = .agg ([.int .i64 0, .int .i64 0, .int .u64 0, .int .u64 0, .int .u64 0, .int .u64 0, .sl true 0 []]) := by kernel_rfl
@[simp] theorem td47 : td Try.prog 47 = .struct [(0, 3), (1, 3), (2, 42), (4, 42), (6, 45)] := by kernel_rfl
@[simp] theorem sz47 : sz Try.prog 47 = 7 := by kernel_rfl
@[simp] theorem byt47 : byt Try.prog 47 = 72 := by kernel_rfl
@[simp] theorem zr47 : zr Try.prog 47 = .agg ([.int .i64 0, .int .i64 0, .int .u64 0, .int .u64 0, .int .u64 0, .int .u64 0, .sl true 0 []]) := by kernel_rfl
@[simp] theorem td48 : td Try.prog 48 = .func := by kernel_rfl
@[simp] theorem sz48 : sz Try.prog 48 = 1 := by kernel_rfl
@[simp] theorem byt48 : byt Try.prog 48 = 8 := by kernel_rfl
@[simp] theorem zr48 : zr Try.prog 48 = .nilf := by kernel_rfl
@[simp] theorem td49 : td Try.prog 49 = .ptr 51 := by kernel_rfl
@[simp] theorem sz49 : sz Try.prog 49 = 1 := by kernel_rfl
@[simp] theorem byt49 : byt Try.prog 49 = 8 := by kernel_rfl
@[simp] theorem zr49 : zr Try.prog 49 = .nilp := by kernel_rfl
@[simp] theorem td50 : td Try.prog 50 = .struct [(0, 26)] := by kernel_rfl
@[simp] theorem sz50 : sz Try.prog 50 = 13 := by kernel_rfl
@[simp] theorem byt50 : byt Try.prog 50 = 136 := by kernel_rfl
@[simp] theorem zr50 : zr Try.prog 50 = .agg ([.int .u64 0, .int .u64 0, .int .i64 0, .int .i64 0, .int .i64 0, .int .i64 0, .int .i64 0, .int .i64 0, .int .i64 0, .int .i64 0, .int .i64 0, .sl true 0 [], .sl true 0 []]) := by kernel_rfl
@[simp] theorem td51 : td Try.prog 51 = .struct [(0, 26)] := by kernel_rfl
@[simp] theorem sz51 : sz Try.prog 51 = 13 := by kernel_rfl
@[simp] theorem byt51 : byt Try.prog 51 = 136 := by kernel_rfl
@[simp] theorem zr51 : zr Try.prog 51 = .agg ([.int .u64 0, .int .u64 0, .int .i64 0, .int .i64 0, .int .i64 0, .int .i64 0, .int .i64 0, .int .i64 0, .int .i64 0, .int .i64 0, .int .i64 0, .sl true 0 [], .sl true 0 []]) := by kernel_rfl
@[simp] theorem td52 : td Try.prog 52 = .func := by kernel_rfl
@[simp] theorem sz52 : sz Try.prog 52 = 1 := by kernel_rfl
@[simp] theorem byt52 : byt Try.prog 52 = 8 := by kernel_rfl
@[simp] theorem zr52 : zr Try.prog 52 = .nilf := by kernel_rfl
@[simp] theorem td53 : td Try.prog 53 = .array 9 3 := by kernel_rfl
@[simp] theorem sz53 : sz Try.prog 53 = 9 := by kernel_rfl
@[simp] theorem byt53 : byt Try.prog 53 = 72 := by kernel_rfl
@[simp] theorem zr53 : zr Try.prog 53 = .agg ([.int .i64 0, .int .i64 0, .int .i64 0, .int .i64 0, .int .i64 0, .int .i64 0, .int .i64 0, .int .i64 0, .int .i64 0]) := by kernel_rfl
@[simp] theorem fl53 : flatT Try.prog 53 = some ([false, false, false, false, false, false, false, false, false]) := by kernel_rfl
@[simp] theorem td54 : td Try.prog 54 = .func := by kernel_rfl
@[simp] theorem sz54 : sz Try.prog 54 = 1 := by kernel_rfl
@[simp] theorem byt54 : byt Try.prog 54 = 8 := by kernel_rfl
@[simp] theorem zr54 : zr Try.prog 54 = .nilf := by kernel_rfl
@[simp] theorem td55 : td Try.prog 55 = .func := by kernel_rfl
@[simp] theorem sz55 : sz Try.prog 55 = 1 := by kernel_rfl
@[simp] theorem byt55 : byt Try.prog 55 = 8 := by kernel_rfl
@[simp] theorem zr55 : zr Try.prog 55 = .nilf := by kernel_rfl
@[simp] theorem td56 : td Try.prog 56 = .func := by kernel_rfl
@[simp] theorem sz56 : sz Try.prog 56 = 1 := by kernel_rfl
@[simp] theorem byt56 : byt Try.prog 56 = 8 := by kernel_rfl
@[simp] theorem zr56 : zr Try.prog 56 = .nilf := by kernel_rfl
@[simp] theorem td57 : td Try.prog 57 = .func := by kernel_rfl
@[simp] theorem sz57 : sz Try.prog 57 = 1 := by kernel_rfl
@[simp] theorem byt57 : byt Try.prog 57 = 8 := by kernel_rfl
@[simp] theorem zr57 : zr Try.prog 57 = .nilf := by kernel_rfl
@[simp] theorem td58 : td Try.prog 58 = .func := by kernel_rfl
@[simp] theorem sz58 : sz Try.prog 58 = 1 := by kernel_rfl
@[simp] theorem byt58 : byt Try.prog 58 = 8 := by kernel_rfl
@[simp] theorem zr58 : zr Try.prog 58 = .nilf := by kernel_rfl
@[simp] theorem td60 : td Try.prog 60 = .func := by kernel_rfl
@[simp] theorem sz60 : sz Try.prog 60 = 1 := by kernel_rfl
@[simp] theorem byt60 : byt Try.prog 60 = 8 := by kernel_rfl
@[simp] theorem zr60 : zr Try.prog 60 = .nilf := by kernel_rfl
@[simp] theorem td62 : td Try.prog 62 = .func := by kernel_rfl
@[simp] theorem sz62 : sz Try.prog 62 = 1 := by kernel_rfl
@[simp] theorem byt62 : byt Try.prog 62 = 8 := by kernel_rfl
@[simp] theorem zr62 : zr Try.prog 62 = .nilf := by kernel_rfl
@[simp] theorem td63 : td Try.prog 63 = .func := by kernel_rfl
@[simp] theorem sz63 : sz Try.prog 63 = 1 := by kernel_rfl
@[simp] theorem byt63 : byt Try.prog 63 = 8 := by kernel_rfl
@[simp] theorem zr63 : zr Try.prog 63 = .nilf := by kernel_rfl
@[simp] theorem td65 : td Try.prog 65 = .func := by kernel_rfl
@[simp] theorem sz65 : sz Try.prog 65 = 1 := by kernel_rfl
@[simp] theorem byt65 : byt Try.prog 65 = 8 := by kernel_rfl
@[simp] theorem zr65 : zr Try.prog 65 = .nilf := by kernel_rfl
@[simp] theorem td67 : td Try.prog 67 = .func := by kernel_rfl
@[simp] theorem sz67 : sz Try.prog 67 = 1 := by kernel_rfl
@[simp] theorem byt67 : byt Try.prog 67 = 8 := by kernel_rfl
@[simp] theorem zr67 : zr Try.prog 67 = .nilf := by kernel_rfl
@[simp] theorem td68 : td Try.prog 68 = .func := by kernel_rfl
@[simp] theorem sz68 : sz Try.prog 68 = 1 := by kernel_rfl
@[simp] theorem byt68 : byt Try.prog 68 = 8 := by kernel_rfl
@[simp] theorem zr68 : zr Try.prog 68 = .nilf := by kernel_rfl
@[simp] theorem td69 : td Try.prog 69 = .func := by kernel_rfl
@[simp] theorem sz69 : sz Try.prog 69 = 1 := by kernel_rfl
@[simp] theorem byt69 : byt Try.prog 69 = 8 := by kernel_rfl
@[simp] theorem zr69 : zr Try.prog 69 = .nilf := by kernel_rfl
@[simp] theorem td70 : td Try.prog 70 = .func := by kernel_rfl
@[simp] theorem sz70 : sz Try.prog 70 = 1 := by kernel_rfl
@[simp] theorem byt70 : byt Try.prog 70 = 8 := by kernel_rfl
@[simp] theorem zr70 : zr Try.prog 70 = .nilf := by kernel_rfl
@[simp] theorem td71 : td Try.prog 71 = .func := by kernel_rfl
@[simp] theorem sz71 : sz Try.prog 71 = 1 := by kernel_rfl
@[simp] theorem byt71 : byt Try.prog 71 = 8 := by kernel_rfl
@[simp] theorem zr71 : zr Try.prog 71 = .nilf := by kernel_rfl
@[simp] theorem td72 : td Try.prog 72 = .func := by kernel_rfl
@[simp] theorem sz72 : sz Try.prog 72 = 1 := by kernel_rfl
@[simp] theorem byt72 : byt Try.prog 72 = 8 := by kernel_rfl
@[simp] theorem zr72 : zr Try.prog 72 = .nilf := by kernel_rfl
@[simp] theorem td73 : td Try.prog 73 = .func := by kernel_rfl
@[simp] theorem sz73 : sz Try.prog 73 = 1 := by kernel_rfl
@[simp] theorem byt73 : byt Try.prog 73 = 8 := by kernel_rfl
@[simp] theorem zr73 : zr Try.prog 73 = .nilf := by kernel_rfl
@[simp] theorem td74 : td Try.prog 74 = .array 16 5 := by kernel_rfl
@[simp] theorem sz74 : sz Try.prog 74 = 16 := by kernel_rfl
@[simp] theorem byt74 : byt Try.prog 74 = 16 := by kernel_rfl
@[simp] theorem zr74 : zr Try.prog 74 = .agg ([.int .u8 0, .int .u8 0, .int .u8 0, .int .u8 0, .int .u8 0, .int .u8 0, .int .u8 0, .int .u8 0, .int .u8 0, .int .u8 0, .int .u8 0, .int .u8 0, .int .u8 0, .int .u8 0, .int .u8 0, .int .u8 0]) := by kernel_rfl
@[simp] theorem fl74 : flatT Try.prog 74 = some ([false, false, false, false, false, false, false, false, false, false, false, false, false, false, false, false]) := by kernel_rfl
@[simp] theorem td75 : td Try.prog 75 = .array 4 5 := by kernel_rfl
@[simp] theorem sz75 : sz Try.prog 75 = 4 := by kernel_rfl
@[simp] theorem byt75 : byt Try.prog 75 = 4 := by kernel_rfl
@[simp] theorem zr75 : zr Try.prog 75 = .agg ([.int .u8 0, .int .u8 0, .int .u8 0, .int .u8 0]) := by kernel_rfl
@[simp] theorem fl75 : flatT Try.prog 75 = some ([false, false, false, false]) := by kernel_rfl
@[simp] theorem td76 : td Try.prog 76 = .func := by kernel_rfl
@[simp] theorem sz76 : sz Try.prog 76 = 1 := by kernel_rfl
@[simp] theorem byt76 : byt Try.prog 76 = 8 := by kernel_rfl
@[simp] theorem zr76 : zr Try.prog 76 = .nilf := by kernel_rfl
@[simp] theorem td77 : td Try.prog 77 = .func := by kernel_rfl
@[simp] theorem sz77 : sz Try.prog 77 = 1 := by kernel_rfl
@[simp] theorem byt77 : byt Try.prog 77 = 8 := by kernel_rfl
@[simp] theorem zr77 : zr Try.prog 77 = .nilf := by kernel_rfl
@[simp] theorem td78 : td Try.prog 78 = .func := by kernel_rfl
@[simp] theorem sz78 : sz Try.prog 78 = 1 := by kernel_rfl
@[simp] theorem byt78 : byt Try.prog 78 = 8 := by kernel_rfl
@[simp] theorem zr78 : zr Try.prog 78 = .nilf := by kernel_rfl
@[simp] theorem td80 : td Try.prog 80 = .func := by kernel_rfl
@[simp] theorem sz80 : sz Try.prog 80 = 1 := by kernel_rfl
@[simp] theorem byt80 : byt Try.prog 80 = 8 := by kernel_rfl
@[simp] theorem zr80 : zr Try.prog 80 = .nilf := by kernel_rfl
@[simp] theorem td81 : td Try.prog 81 = .int .u64 := by kernel_rfl
@[simp] theorem sz81 : sz Try.prog 81 = 1 := by kernel_rfl
@[simp] theorem byt81 : byt Try.prog 81 = 8 := by kernel_rfl
@[simp] theorem zr81 : zr Try.prog 81 = .int .u64 0 := by kernel_rfl
@[simp] theorem td82 : td Try.prog 82 = .func := by kernel_rfl
@[simp] theorem sz82 : sz Try.prog 82 = 1 := by kernel_rfl
@[simp] theorem byt82 : byt Try.prog 82 = 8 := by kernel_rfl
@[simp] theorem zr82 : zr Try.prog 82 = .nilf := by kernel_rfl
@[simp] theorem td84 : td Try.prog 84 = .func := by kernel_rfl
@[simp] theorem sz84 : sz Try.prog 84 = 1 := by kernel_rfl
@[simp] theorem byt84 : byt Try.prog 84 = 8 := by kernel_rfl
@[simp] theorem zr84 : zr Try.prog 84 = .nilf := by kernel_rfl
@[simp] theorem td86 : td Try.prog 86 = .func := by kernel_rfl
@[simp] theorem sz86 : sz Try.prog 86 = 1 := by kernel_rfl
@[simp] theorem byt86 : byt Try.prog 86 = 8 := by kernel_rfl
@[simp] theorem zr86 : zr Try.prog 86 = .nilf := by kernel_rfl
@[simp] theorem td87 : td Try.prog 87 = .func := by kernel_rfl
@[simp] theorem sz87 : sz Try.prog 87 = 1 := by kernel_rfl
@[simp] theorem byt87 : byt Try.prog 87 = 8 := by kernel_rfl
@[simp] theorem zr87 : zr Try.prog 87 = .nilf := by kernel_rfl
@[simp] theorem td88 : td Try.prog 88 = .func := by kernel_rfl
@[simp] theorem sz88 : sz Try.prog 88 = 1 := by kernel_rfl
@[simp] theorem byt88 : byt Try.prog 88 = 8 := by kernel_rfl
@[simp] theorem zr88 : zr Try.prog 88 = .nilf := by kernel_rfl
@[simp] theorem td89 : td Try.prog 89 = .func := by kernel_rfl
@[simp] theorem sz89 : sz Try.prog 89 = 1 := by kernel_rfl
@[simp] theorem byt89 : byt Try.prog 89 = 8 := by kernel_rfl
@[simp] theorem zr89 : zr Try.prog 89 = .nilf := by kernel_rfl
@[simp] theorem td91 : td Try.prog 91 = .func := by kernel_rfl
@[simp] theorem sz91 : sz Try.prog 91 = 1 := by kernel_rfl
@[simp] theorem byt91 : byt Try.prog 91 = 8 := by kernel_rfl
@[simp] theorem zr91 : zr Try.prog 91 = .nilf := by kernel_rfl
@[simp] theorem td93 : td Try.prog 93 = .func := by kernel_rfl
@[simp] theorem sz93 : sz Try.prog 93 = 1 := by kernel_rfl
@[simp] theorem byt93 : byt Try.prog 93 = 8 := by kernel_rfl
@[simp] theorem zr93 : zr Try.prog 93 = .nilf := by kernel_rfl
@[simp] theorem td94 : td Try.prog 94 = .func := by kernel_rfl
@[simp] theorem sz94 : sz Try.prog 94 = 1 := by kernel_rfl
@[simp] theorem byt94 : byt Try.prog 94 = 8 := by kernel_rfl
@[simp] theorem zr94 : zr Try.prog 94 = .nilf := by kernel_rfl
@[simp] theorem td95 : td Try.prog 95 = .func := by kernel_rfl
@[simp] theorem sz95 : sz Try.prog 95 = 1 := by kernel_rfl
@[simp] theorem byt95 : byt Try.prog 95 = 8 := by kernel_rfl
@[simp] theorem zr95 : zr Try.prog 95 = .nilf := by kernel_rfl
@[simp] theorem td96 : td Try.prog 96 = .func := by kernel_rfl
@[simp] theorem sz96 : sz Try.prog 96 = 1 := by kernel_rfl
@[simp] theorem byt96 : byt Try.prog 96 = 8 := by kernel_rfl
@[simp] theorem zr96 : zr Try.prog 96 = .nilf := by kernel_rfl
@[simp] theorem td97 : td Try.prog 97 = .func := by kernel_rfl
@[simp] theorem sz97 : sz Try.prog 97 = 1 := by kernel_rfl
@[simp] theorem byt97 : byt Try.prog 97 = 8 := by kernel_rfl
@[simp] theorem zr97 : zr Try.prog 97 = .nilf := by kernel_rfl
@[simp] theorem td98 : td Try.prog 98 = .func := by kernel_rfl
@[simp] theorem sz98 : sz Try.prog 98 = 1 := by kernel_rfl
@[simp] theorem byt98 : byt Try.prog 98 = 8 := by kernel_rfl
@[simp] theorem zr98 : zr Try.prog 98 = .nilf := by kernel_rfl
@[simp] theorem td99 : td Try.prog 99 = .struct [(0, 3), (1, 3), (2, 3), (3, 3), (4, 3), (5, 44)] := by kernel_rfl
@[simp] theorem sz99 : sz Try.prog 99 = 11 := by kernel_rfl
@[simp] theorem byt99 : byt Try.prog 99 = 88 := by kernel_rfl
@[simp] theorem zr99 : zr Try.prog 99 = .agg ([.int .i64 0, .int .i64 0, .int .i64 0, .int .i64 0, .int .i64 0, .int .i64 0, .bool false, .int .u64 0, .int .u64 0, .int .u64 0, .int .u64 0]) := by kernel_rfl
@[simp] theorem fl99 : flatT Try.prog 99 = some ([false, false, false, false, false, false, true, false, false, false, false]) := by kernel_rfl
@[simp] theorem td100 : td Try.prog 100 = .struct [(0, 3), (1, 3), (2, 3), (3, 3), (4, 3), (5, 44)] := by kernel_rfl
@[simp] theorem sz100 : sz Try.prog 100 = 11 := by kernel_rfl
@[simp] theorem byt100 : byt Try.prog 100 = 88 := by kernel_rfl
@[simp] theorem zr100 : zr Try.prog 100 = .agg ([.int .i64 0, .int .i64 0, .int .i64 0, .int .i64 0, .int .i64 0, .int .i64 0, .bool false, .int .u64 0, .int .u64 0, .int .u64 0, .int .u64 0]) := by kernel_rfl
@[simp] theorem fl100 : flatT Try.prog 100 = some ([false, false, false, false, false, false, true, false, false, false, false]) := by kernel_rfl
@[simp] theorem td101 : td Try.prog 101 = .func := by kernel_rfl
@[simp] theorem sz101 : sz Try.prog 101 = 1 := by kernel_rfl
@[simp] theorem byt101 : byt Try.prog 101 = 8 := by kernel_rfl
@[simp] theorem zr101 : zr Try.prog 101 = .nilf := by kernel_rfl
@[simp] theorem td102 : td Try.prog 102 = .func := by kernel_rfl
@[simp] theorem sz102 : sz Try.prog 102 = 1 := by kernel_rfl
@[simp] theorem byt102 : byt Try.prog 102 = 8 := by kernel_rfl
@[simp] theorem zr102 : zr Try.prog 102 = .nilf := by kernel_rfl
@[simp] theorem td103 : td Try.prog 103 = .func := by kernel_rfl
@[simp] theorem sz103 : sz Try.prog 103 = 1 := by kernel_rfl
@[simp] theorem byt103 : byt Try.prog 103 = 8 := by kernel_rfl
@[simp] theorem zr103 : zr Try.prog 103 = .nilf := by kernel_rfl
@[simp] theorem td104 : td Try.prog 104 = .func := by kernel_rfl
@[simp] theorem sz104 : sz Try.prog 104 = 1 := by kernel_rfl
@[simp] theorem byt104 : byt Try.prog 104 = 8 := by kernel_rfl
@[simp] theorem zr104 : zr Try.prog 104 = .nilf := by kernel_rfl
@[simp] theorem td105 : td Try.prog 105 = .int .i64 := by kernel_rfl
@[simp] theorem sz105 : sz Try.prog 105 = 1 := by kernel_rfl
@[simp] theorem byt105 : byt Try.prog 105 = 8 := by kernel_rfl
@[simp] theorem zr105 : zr Try.prog 105 = .int .i64 0 := by kernel_rfl
@[simp] theorem td107 : td Try.prog 107 = .func := by kernel_rfl
@[simp] theorem sz107 : sz Try.prog 107 = 1 := by kernel_rfl
@[simp] theorem byt107 : byt Try.prog 107 = 8 := by kernel_rfl
@[simp] theorem zr107 : zr Try.prog 107 = .nilf := by kernel_rfl
@[simp] theorem td108 : td Try.prog 108 = .func := by kernel_rfl
@[simp] theorem sz108 : sz Try.prog 108 = 1 := by kernel_rfl
@[simp] theorem byt108 : byt Try.prog 108 = 8 := by kernel_rfl
@[simp] theorem zr108 : zr Try.prog 108 = .nilf := by kernel_rfl
@[simp] theorem td109 : td Try.prog 109 = .func := by kernel_rfl
@[simp] theorem sz109 : sz Try.prog 109 = 1 := by kernel_rfl
@[simp] theorem byt109 : byt Try.prog 109 = 8 := by kernel_rfl
@[simp] theorem zr109 : zr Try.prog 109 = .nilf := by kernel_rfl
@[simp] theorem td110 : td Try.prog 110 = .func := by kernel_rfl
@[simp] theorem sz110 : sz Try.prog 110 = 1 := by kernel_rfl
@[simp] theorem byt110 : byt Try.prog 110 = 8 := by kernel_rfl
@[simp] theorem zr110 : zr Try.prog 110 = .nilf := by kernel_rfl
@[simp] theorem td112 : td Try.prog 112 = .func := by kernel_rfl
@[simp] theorem sz112 : sz Try.prog 112 = 1 := by kernel_rfl
@[simp] theorem byt112 : byt Try.prog 112 = 8 := by kernel_rfl
@[simp] theorem zr112 : zr Try.prog 112 = .nilf := by kernel_rfl
@[simp] theorem td113 : td Try.prog 113 = .func := by kernel_rfl
@[simp] theorem sz113 : sz Try.prog 113 = 1 := by kernel_rfl
@[simp] theorem byt113 : byt Try.prog 113 = 8 := by kernel_rfl
@[simp] theorem zr113 : zr Try.prog 113 = .nilf := by kernel_rfl
@[simp] theorem td114 : td Try.prog 114 = .slice 118 := by kernel_rfl
@[simp] theorem sz114 : sz Try.prog 114 = 1 := by kernel_rfl
@[simp] theorem byt114 : byt Try.prog 114 = 24 := by kernel_rfl
@[simp] theorem zr114 : zr Try.prog 114 = .sl true 0 [] := by kernel_rfl
@[simp] theorem td115 : td Try.prog 115 = .func := by kernel_rfl
@[simp] theorem sz115 : sz Try.prog 115 = 1 := by kernel_rfl
@[simp] theorem byt115 : byt Try.prog 115 = 8 := by kernel_rfl
@[simp] theorem zr115 : zr Try.prog 115 = .nilf := by kernel_rfl
@[simp] theorem td116 : td Try.prog 116 = .slice 42 := by kernel_rfl
@[simp] theorem sz116 : sz Try.prog 116 = 1 := by kernel_rfl
@[simp] theorem byt116 : byt Try.prog 116 = 24 := by kernel_rfl
@[simp] theorem zr116 : zr Try.prog 116 = .sl true 0 [] := by kernel_rfl
@[simp] theorem td117 : td Try.prog 117 = .struct [(0, 3), (1, 116)] := by kernel_rfl
@[simp] theorem sz117 : sz Try.prog 117 = 2 := by kernel_rfl
@[simp] theorem byt117 : byt Try.prog 117 = 32 := by kernel_rfl
@[simp] theorem zr117 : zr Try.prog 117 = .agg ([.int .i64 0, .sl true 0 []]) := by kernel_rfl
@[simp] theorem td118 : td Try.prog 118 = .struct [(0, 3), (1, 116)] := by kernel_rfl
@[simp] theorem sz118 : sz Try.prog 118 = 2 := by kernel_rfl
@[simp] theorem byt118 : byt Try.prog 118 = 32 := by kernel_rfl
@[simp] theorem zr118 : zr Try.prog 118 = .agg ([.int .i64 0, .sl true 0 []]) := by kernel_rfl
@[simp] theorem td119 : td Try.prog 119 = .func := by kernel_rfl
@[simp] theorem sz119 : sz Try.prog 119 = 1 := by kernel_rfl
@[simp] theorem byt119 : byt Try.prog 119 = 8 := by kernel_rfl
@[simp] theorem zr119 : zr Try.prog 119 = .nilf := by kernel_rfl
@[simp] theorem td120 : td Try.prog 120 = .func := by kernel_rfl
@[simp] theorem sz120 : sz Try.prog 120 = 1 := by kernel_rfl
@[simp] theorem byt120 : byt Try.prog 120 = 8 := by kernel_rfl
@[simp] theorem zr120 : zr Try.prog 120 = .nilf := by kernel_rfl
@[simp] theorem td121 : td Try.prog 121 = .func := by kernel_rfl
@[simp] theorem sz121 : sz Try.prog 121 = 1 := by kernel_rfl
@[simp] theorem byt121 : byt Try.prog 121 = 8 := by kernel_rfl
@[simp] theorem zr121 : zr Try.prog 121 = .nilf := by kernel_rfl
@[simp] theorem td122 : td Try.prog 122 = .struct [(0, 9), (1, 3), (2, 3), (3, 4)] := by kernel_rfl
@[simp] theorem sz122 : sz Try.prog 122 = 4 := by kernel_rfl
@[simp] theorem byt122 : byt Try.prog 122 = 40 := by kernel_rfl
@[simp] theorem zr122 : zr Try.prog 122 = .agg ([.str ByteArray.empty, .int .i64 0, .int .i64 0, .bool false]) := by kernel_rfl
@[simp] theorem td123 : td Try.prog 123 = .struct [(0, 9), (1, 3), (2, 3), (3, 4)] := by kernel_rfl
@[simp] theorem sz123 : sz Try.prog 123 = 4 := by kernel_rfl
@[simp] theorem byt123 : byt Try.prog 123 = 40 := by kernel_rfl
@[simp] theorem zr123 : zr Try.prog 123 = .agg ([.str ByteArray.empty, .int .i64 0, .int .i64 0, .bool false]) := by kernel_rfl
@[simp] theorem td124 : td Try.prog 124 = .func := by kernel_rfl
@[simp] theorem sz124 : sz Try.prog 124 = 1 := by kernel_rfl
@[simp] theorem byt124 : byt Try.prog 124 = 8 := by kernel_rfl
@[simp] theorem zr124 : zr Try.prog 124 = .nilf := by kernel_rfl
@[simp] theorem td125 : td Try.prog 125 = .func := by kernel_rfl
@[simp] theorem sz125 : sz Try.prog 125 = 1 := by kernel_rfl
@[simp] theorem byt125 : byt Try.prog 125 = 8 := by kernel_rfl
@[simp] theorem zr125 : zr Try.prog 125 = .nilf := by kernel_rfl
@[simp] theorem td126 : td Try.prog 126 = .func := by kernel_rfl
@[simp] theorem sz126 : sz Try.prog 126 = 1 := by kernel_rfl
@[simp] theorem byt126 : byt Try.prog 126 = 8 := by kernel_rfl
@[simp] theorem zr126 : zr Try.prog 126 = .nilf := by kernel_rfl
@[simp] theorem td128 : td Try.prog 128 = .func := by kernel_rfl
@[simp] theorem sz128 : sz Try.prog 128 = 1 := by kernel_rfl
@[simp] theorem byt128 : byt Try.prog 128 = 8 := by kernel_rfl
@[simp] theorem zr128 : zr Try.prog 128 = .nilf := by kernel_rfl
@[simp] theorem td129 : td Try.prog 129 = .func := by kernel_rfl
@[simp] theorem sz129 : sz Try.prog 129 = 1 := by kernel_rfl
@[simp] theorem byt129 : byt Try.prog 129 = 8 := by kernel_rfl
@[simp] theorem zr129 : zr Try.prog 129 = .nilf := by kernel_rfl
@[simp] theorem td130 : td Try.prog 130 = .func := by kernel_rfl
@[simp] theorem sz130 : sz Try.prog 130 = 1 := by kernel_rfl
@[simp] theorem byt130 : byt Try.prog 130 = 8 := by kernel_rfl
@[simp] theorem zr130 : zr Try.prog 130 = .nilf := by kernel_rfl
@[simp] theorem td132 : td Try.prog 132 = .func := by kernel_rfl
@[simp] theorem sz132 : sz Try.prog 132 = 1 := by kernel_rfl
@[simp] theorem byt132 : byt Try.prog 132 = 8 := by kernel_rfl
@[simp] theorem zr132 : zr Try.prog 132 = .nilf := by kernel_rfl
@[simp] theorem td133 : td Try.prog 133 = .func := by kernel_rfl
@[simp] theorem sz133 : sz Try.prog 133 = 1 := by kernel_rfl
@[simp] theorem byt133 : byt Try.prog 133 = 8 := by kernel_rfl
@[simp] theorem zr133 : zr Try.prog 133 = .nilf := by kernel_rfl
@[simp] theorem td134 : td Try.prog 134 = .func := by kernel_rfl
@[simp] theorem sz134 : sz Try.prog 134 = 1 := by kernel_rfl
@[simp] theorem byt134 : byt Try.prog 134 = 8 := by kernel_rfl
@[simp] theorem zr134 : zr Try.prog 134 = .nilf := by kernel_rfl
@[simp] theorem td135 : td Try.prog 135 = .func := by kernel_rfl
@[simp] theorem sz135 : sz Try.prog 135 = 1 := by kernel_rfl
@[simp] theorem byt135 : byt Try.prog 135 = 8 := by kernel_rfl
@[simp] theorem zr135 : zr Try.prog 135 = .nilf := by kernel_rfl
@[simp] theorem td136 : td Try.prog 136 = .func := by kernel_rfl
@[simp] theorem sz136 : sz Try.prog 136 = 1 := by kernel_rfl
@[simp] theorem byt136 : byt Try.prog 136 = 8 := by kernel_rfl
@[simp] theorem zr136 : zr Try.prog 136 = .nilf := by kernel_rfl
@[simp] theorem td137 : td Try.prog 137 = .slice 22 := by kernel_rfl
@[simp] theorem sz137 : sz Try.prog 137 = 1 := by kernel_rfl
@[simp] theorem byt137 : byt Try.prog 137 = 24 := by kernel_rfl
@[simp] theorem zr137 : zr Try.prog 137 = .sl true 0 [] := by kernel_rfl
@[simp] theorem td138 : td Try.prog 138 = .func := by kernel_rfl
@[simp] theorem sz138 : sz Try.prog 138 = 1 := by kernel_rfl
@[simp] theorem byt138 : byt Try.prog 138 = 8 := by kernel_rfl
@[simp] theorem zr138 : zr Try.prog 138 = .nilf := by kernel_rfl
@[simp] theorem td139 : td Try.prog 139 = .array 24 123 := by kernel_rfl
@[simp] theorem sz139 : sz Try.prog 139 = 96 := by kernel_rfl
@[simp] theorem byt139 : byt Try.prog 139 = 960 := by kernel_rfl
@[simp] theorem zr139 : zr Try.prog 139 = .agg ([.str ByteArray.empty, .int .i64 0, .int .i64 0, .bool false, .str ByteArray.empty, .int .i64 0, .int .i64 0, .bool false, .str ByteArray.empty, .int .i64 0, .int .i64 0, .bool false, .str ByteArray.empty, .int .i64 0, .int .i64 0, .bool false, .str ByteArray.empty, .int .i64 0, .int .i64 0, .bool false, .str ByteArray.empty, .int .i64 0, .int .i64 0, .bool false, .str ByteArray.empty, .int .i64 0, .int .i64 0, .bool false, .str ByteArray.empty, .int .i64 0, .int .i64 0, .bool false, .str ByteArray.empty, .int .i64 0, .int .i64 0, .bool false, .str ByteArray.empty, .int .i64 0, .int .i64 0, .bool false, .str ByteArray.empty, .int .i64 0, .int .i64 0, .bool false, .str ByteArray.empty, .int .i64 0, .int .i64 0, .bool false, .str ByteArray.empty, .int .i64 0, .int .i64 0, .bool false, .str ByteArray.empty, .int .i64 0, .int .i64 0, .bool false, .str ByteArray.empty, .int .i64 0, .int .i64 0, .bool false, .str ByteArray.empty, .int .i64 0, .int .i64 0, .bool false, .str ByteArray.empty, .int .i64 0, .int .i64 0, .bool false, .str ByteArray.empty, .int .i64 0, .int .i64 0, .bool false, .str ByteArray.empty, .int .i64 0, .int .i64 0, .bool false, .str ByteArray.empty, .int .i64 0, .int .i64 0, .bool false, .str ByteArray.empty, .int .i64 0, .int .i64 0, .bool false, .str ByteArray.empty, .int .i64 0, .int .i64 0, .bool false, .str ByteArray.empty, .int .i64 0, .int .i64 0, .bool false, .str ByteArray.empty, .int .i64 0, .int .i64 0, .bool false]) := by kernel_rfl
@[simp] theorem td140 : td Try.prog 140 = .func := by kernel_rfl
@[simp] theorem sz140 : sz Try.prog 140 = 1 := by kernel_rfl
@[simp] theorem byt140 : byt Try.prog 140 = 8 := by kernel_rfl
@[simp] theorem zr140 : zr Try.prog 140 = .nilf := by kernel_rfl
@[simp] theorem td141 : td Try.prog 141 = .func := by kernel_rfl
@[simp] theorem sz141 : sz Try.prog 141 = 1 := by kernel_rfl
@[simp] theorem byt141 : byt Try.prog 141 = 8 := by kernel_rfl
@[simp] theorem zr141 : zr Try.prog 141 = .nilf := by kernel_rfl
@[simp] theorem td142 : td Try.prog 142 = .func := by kernel_rfl
@[simp] theorem sz142 : sz Try.prog 142 = 1 := by kernel_rfl
@[simp] theorem byt142 : byt Try.prog 142 = 8 := by kernel_rfl
@[simp] theorem zr142 : zr Try.prog 142 = .nilf := by kernel_rfl
@[simp] theorem td143 : td Try.prog 143 = .func := by kernel_rfl
@[simp] theorem sz143 : sz Try.prog 143 = 1 := by kernel_rfl
@[simp] theorem byt143 : byt Try.prog 143 = 8 := by kernel_rfl
@[simp] theorem zr143 : zr Try.prog 143 = .nilf := by kernel_rfl
@[simp] theorem td144 : td Try.prog 144 = .func := by kernel_rfl
@[simp] theorem sz144 : sz Try.prog 144 = 1 := by kernel_rfl
@[simp] theorem byt144 : byt Try.prog 144 = 8 := by kernel_rfl
@[simp] theorem zr144 : zr Try.prog 144 = .nilf := by kernel_rfl
@[simp] theorem td146 : td Try.prog 146 = .func := by kernel_rfl
@[simp] theorem sz146 : sz Try.prog 146 = 1 := by kernel_rfl
@[simp] theorem byt146 : byt Try.prog 146 = 8 := by kernel_rfl
@[simp] theorem zr146 : zr Try.prog 146 = .nilf := by kernel_rfl
@[simp] theorem td147 : td Try.prog 147 = .func := by kernel_rfl
@[simp] theorem sz147 : sz Try.prog 147 = 1 := by kernel_rfl
@[simp] theorem byt147 : byt Try.prog 147 = 8 := by kernel_rfl
@[simp] theorem zr147 : zr Try.prog 147 = .nilf := by kernel_rfl
@[simp] theorem td148 : td Try.prog 148 = .func := by kernel_rfl
@[simp] theorem sz148 : sz Try.prog 148 = 1 := by kernel_rfl
@[simp] theorem byt148 : byt Try.prog 148 = 8 := by kernel_rfl
@[simp] theorem zr148 : zr Try.prog 148 = .nilf := by kernel_rfl
@[simp] theorem td149 : td Try.prog 149 = .func := by kernel_rfl
@[simp] theorem sz149 : sz Try.prog 149 = 1 := by kernel_rfl
@[simp] theorem byt149 : byt Try.prog 149 = 8 := by kernel_rfl
@[simp] theorem zr149 : zr Try.prog 149 = .nilf := by kernel_rfl
@[simp] theorem td150 : td Try.prog 150 = .struct [(0, 17), (1, 17), (2, 17), (3, 9)] := by kernel_rfl
@[simp] theorem sz150 : sz Try.prog 150 = 4 := by kernel_rfl
@[simp] theorem byt150 : byt Try.prog 150 = 40 := by kernel_rfl
@[simp] theorem zr150 : zr Try.prog 150 = .agg ([.nilp, .nilp, .nilp, .str ByteArray.empty]) := by kernel_rfl
@[simp] theorem td151 : td Try.prog 151 = .struct [(0, 17), (1, 17), (2, 17), (3, 9)] := by kernel_rfl
@[simp] theorem sz151 : sz Try.prog 151 = 4 := by kernel_rfl
@[simp] theorem byt151 : byt Try.prog 151 = 40 := by kernel_rfl
@[simp] theorem zr151 : zr Try.prog 151 = .agg ([.nilp, .nilp, .nilp, .str ByteArray.empty]) := by kernel_rfl
@[simp] theorem td152 : td Try.prog 152 = .array 0 16 := by kernel_rfl
@[simp] theorem sz152 : sz Try.prog 152 = 0 := by kernel_rfl
@[simp] theorem byt152 : byt Try.prog 152 = 0 := by kernel_rfl
@[simp] theorem zr152 : zr Try.prog 152 = .agg ([]) := by kernel_rfl
@[simp] theorem td153 : td Try.prog 153 = .struct [(0, 152)] := by kernel_rfl
@[simp] theorem sz153 : sz Try.prog 153 = 0 := by kernel_rfl
@[simp] theorem byt153 : byt Try.prog 153 = 0 := by kernel_rfl
@[simp] theorem zr153 : zr Try.prog 153 = .agg ([]) := by kernel_rfl
@[simp] theorem td154 : td Try.prog 154 = .struct [(0, 152)] := by kernel_rfl
@[simp] theorem sz154 : sz Try.prog 154 = 0 := by kernel_rfl
@[simp] theorem byt154 : byt Try.prog 154 = 0 := by kernel_rfl
@[simp] theorem zr154 : zr Try.prog 154 = .agg ([]) := by kernel_rfl
@[simp] theorem td155 : td Try.prog 155 = .func := by kernel_rfl
@[simp] theorem sz155 : sz Try.prog 155 = 1 := by kernel_rfl
@[simp] theorem byt155 : byt Try.prog 155 = 8 := by kernel_rfl
@[simp] theorem zr155 : zr Try.prog 155 = .nilf := by kernel_rfl
@[simp] theorem td156 : td Try.prog 156 = .int .u32 := by kernel_rfl
@[simp] theorem sz156 : sz Try.prog 156 = 1 := by kernel_rfl
@[simp] theorem byt156 : byt Try.prog 156 = 4 := by kernel_rfl
@[simp] theorem zr156 : zr Try.prog 156 = .int .u32 0 := by kernel_rfl
@[simp] theorem td157 : td Try.prog 157 = .int .u8 := by kernel_rfl
@[simp] theorem sz157 : sz Try.prog 157 = 1 := by kernel_rfl
@[simp] theorem byt157 : byt Try.prog 157 = 1 := by kernel_rfl
@[simp] theorem zr157 : zr Try.prog 157 = .int .u8 0 := by kernel_rfl
@[simp] theorem td158 : td Try.prog 158 = .int .u8 := by kernel_rfl
@[simp] theorem sz158 : sz Try.prog 158 = 1 := by kernel_rfl
@[simp] theorem byt158 : byt Try.prog 158 = 1 := by kernel_rfl
@[simp] theorem zr158 : zr Try.prog 158 = .int .u8 0 := by kernel_rfl
@[simp] theorem td159 : td Try.prog 159 = .func := by kernel_rfl
@[simp] theorem sz159 : sz Try.prog 159 = 1 := by kernel_rfl
@[simp] theorem byt159 : byt Try.prog 159 = 8 := by kernel_rfl
@[simp] theorem zr159 : zr Try.prog 159 = .nilf := by kernel_rfl
@[simp] theorem td160 : td Try.prog 160 = .ptr 5 := by kernel_rfl
@[simp] theorem sz160 : sz Try.prog 160 = 1 := by kernel_rfl
@[simp] theorem byt160 : byt Try.prog 160 = 8 := by kernel_rfl
@[simp] theorem zr160 : zr Try.prog 160 = .nilp := by kernel_rfl
@[simp] theorem td161 : td Try.prog 161 = .int .i32 := by kernel_rfl
@[simp] theorem sz161 : sz Try.prog 161 = 1 := by kernel_rfl
@[simp] theorem byt161 : byt Try.prog 161 = 4 := by kernel_rfl
@[simp] theorem zr161 : zr Try.prog 161 = .int .i32 0 := by kernel_rfl
@[simp] theorem td162 : td Try.prog 162 = .int .i32 := by kernel_rfl
@[simp] theorem sz162 : sz Try.prog 162 = 1 := by kernel_rfl
@[simp] theorem byt162 : byt Try.prog 162 = 4 := by kernel_rfl
@[simp] theorem zr162 : zr Try.prog 162 = .int .i32 0 := by kernel_rfl
@[simp] theorem td163 : td Try.prog 163 = .struct [(0, 12), (1, 12), (2, 156), (3, 157), (4, 5), (5, 5), (6, 158), (7, 159), (8, 160), (9, 161), (10, 162)] := by kernel_rfl
@[simp] theorem sz163 : sz Try.prog 163 = 11 := by kernel_rfl
@[simp] theorem byt163 : byt Try.prog 163 = 48 := by kernel_rfl
@[simp] theorem zr163 : zr Try.prog 163 = .agg ([.int .u64 0, .int .u64 0, .int .u32 0, .int .u8 0, .int .u8 0, .int .u8 0, .int .u8 0, .nilf, .nilp, .int .i32 0, .int .i32 0]) := by kernel_rfl
@[simp] theorem td164 : td Try.prog 164 = .struct [(0, 12), (1, 12), (2, 156), (3, 157), (4, 5), (5, 5), (6, 158), (7, 159), (8, 160), (9, 161), (10, 162)] := by kernel_rfl
@[simp] theorem sz164 : sz Try.prog 164 = 11 := by kernel_rfl
@[simp] theorem byt164 : byt Try.prog 164 = 48 := by kernel_rfl
@[simp] theorem zr164 : zr Try.prog 164 = .agg ([.int .u64 0, .int .u64 0, .int .u32 0, .int .u8 0, .int .u8 0, .int .u8 0, .int .u8 0, .nilf, .nilp, .int .i32 0, .int .i32 0]) := by kernel_rfl
end Go.Proofs.Ytibaiiibjnnlkaa
end

section
set_option linter.unusedVariables false
set_option linter.unusedSimpArgs false
set_option maxRecDepth 4000
namespace Go.Proofs.Ytibaiiibjnnlkaa
open Go Go.AI Go.Proofs

theorem cellsOf_sz (t : TypeId) : Try.prog.cellsOf t = sz Try.prog t := rfl
section
variable {H : Type} {enc : TypeId × Value → H} {w : World} {sp : Nat → Bool} {held : Bool}
theorem rdWide : Rd enc Try.prog w sp held 42 Wide.enc := by
  intro fuel cs x h
  obtain ⟨hl, fuel', hf⟩ := trod_struct Try.underlying42 h
  simp only [cellsOf_sz, sz42] at hl
  simp only [List.mem_cons, List.not_mem_nil, or_false, forall_eq_or_imp, forall_eq, cellsOf_sz, sz22] at hf
  match cs, hl, hf with
  | [c0, c1], _, ⟨⟨y0, h0⟩, ⟨y1, h1⟩⟩ =>
    obtain ⟨b0, e0⟩ := rd_u64 Try.underlying22 h0
    obtain ⟨b1, e1⟩ := rd_u64 Try.underlying22 h1
    simp at e0 e1
    subst e0 e1
    exact ⟨⟨b0, b1⟩, by simp [Wide.enc, RelL, Rel], by simp [Ones, Value.oneCell']⟩
theorem rdOxm : Rd enc Try.prog w sp held 44 Oxm.enc := by
  intro fuel cs x h
  obtain ⟨hl, fuel', hf⟩ := trod_struct Try.underlying44 h
  simp only [cellsOf_sz, sz44] at hl
  simp only [List.mem_cons, List.not_mem_nil, or_false, forall_eq_or_imp, forall_eq, cellsOf_sz, sz42, sz3, sz4] at hf
  match cs, hl, hf with
  | [c0, c1, c2, c3, c4, c5], _, ⟨⟨y0, h0⟩, ⟨y1, h1⟩, ⟨y2, h2⟩, ⟨y3, h3⟩⟩ =>
    obtain ⟨n, e0⟩ := rd_int Try.underlying3 h0
    obtain ⟨b, e1⟩ := trod_bool Try.underlying4 h1
    obtain ⟨v, r2, o2⟩ := rdWide fuel' _ y2 h2
    obtain ⟨m, r3, o3⟩ := rdWide fuel' _ y3 h3
    simp at e0 e1
    subst e0 e1
    exact ⟨⟨n, b, v, m⟩, RelL.cons (by simp [Rel]) (RelL.cons (by simp [Rel]) (r2.append r3)), (Ones.append (vs := [_, _]) (by simp [Ones, Value.oneCell']) (o2.append o3))⟩
theorem rdAction : Rd enc Try.prog w sp held 100 Action.enc := by
  intro fuel cs x h
  obtain ⟨hl, fuel', hf⟩ := trod_struct Try.underlying100 h
  simp only [cellsOf_sz, sz100] at hl
  simp only [List.mem_cons, List.not_mem_nil, or_false, forall_eq_or_imp, forall_eq, cellsOf_sz, sz44, sz3] at hf
  match cs, hl, hf with
  | [c0, c1, c2, c3, c4, c5, c6, c7, c8, c9, c10], _, ⟨⟨y0, h0⟩, ⟨y1, h1⟩, ⟨y2, h2⟩, ⟨y3, h3⟩, ⟨y4, h4⟩, ⟨y5, h5⟩⟩ =>
    obtain ⟨n0, e0⟩ := rd_int Try.underlying3 h0
    obtain ⟨n1, e1⟩ := rd_int Try.underlying3 h1
    obtain ⟨n2, e2⟩ := rd_int Try.underlying3 h2
    obtain ⟨n3, e3⟩ := rd_int Try.underlying3 h3
    obtain ⟨n4, e4⟩ := rd_int Try.underlying3 h4
    obtain ⟨o, r5, o5⟩ := rdOxm fuel' _ y5 h5
    simp at e0 e1 e2 e3 e4
    subst e0 e1 e2 e3 e4
    exact ⟨⟨n0, n1, n2, n3, n4, o⟩, RelL.cons (by simp [Rel]) (RelL.cons (by simp [Rel]) (RelL.cons (by simp [Rel]) (RelL.cons (by simp [Rel]) (RelL.cons (by simp [Rel]) r5)))), (Ones.append (vs := [_, _, _, _, _]) (by simp [Ones, Value.oneCell']) o5)⟩
theorem one_of_sl {f : Bool} {n : Nat} {cs : List AV} {E : Env} {G : Heap} {v : Value} (h : Rel E G (.sl f n cs) v) : v.oneCell' = true := by
  simp only [Rel] at h
  rcases h with ⟨a, cap, rfl, _⟩ | ⟨_, _, _, _, rfl, _⟩ <;> rfl
theorem rdInst : Rd enc Try.prog w sp held 47 Inst.enc := by
  intro fuel cs x h
  obtain ⟨hl, fuel', hf⟩ := trod_struct Try.underlying47 h
  simp only [cellsOf_sz, sz47] at hl
  simp only [List.mem_cons, List.not_mem_nil, or_false, forall_eq_or_imp, forall_eq, cellsOf_sz, sz42, sz3, sz45] at hf
  match cs, hl, hf with
  | [c0, c1, c2, c3, c4, c5, c6], _, ⟨⟨y0, h0⟩, ⟨y1, h1⟩, ⟨y2, h2⟩, ⟨y3, h3⟩, ⟨y4, h4⟩⟩ =>
    obtain ⟨n0, e0⟩ := rd_int Try.underlying3 h0
    obtain ⟨n1, e1⟩ := rd_int Try.underlying3 h1
    obtain ⟨v, r2, o2⟩ := rdWide fuel' _ y2 h2
    obtain ⟨m, r3, o3⟩ := rdWide fuel' _ y3 h3
    obtain ⟨l, u, e4, r4⟩ := rd_slice (s := 11) (f := Action.enc) Try.underlying45 (by kernel_rfl) (by omega) Action.len rdAction h4
    simp at e0 e1 e4
    subst e0 e1 e4
    exact ⟨⟨n0, n1, v, m, l⟩, RelL.cons (by simp [Rel]) (RelL.cons (by simp [Rel]) (r2.append (r3.append (RelL.cons r4 RelL.nil)))),
      (Ones.append (vs := [_, _]) (by simp [Ones, Value.oneCell']) (o2.append (o3.append (Ones.single (one_of_sl r4)))))⟩
theorem rdFlowMod : Rd enc Try.prog w sp held 26 FlowMod.enc := by
  intro fuel cs x h
  obtain ⟨hl, fuel', hf⟩ := trod_struct Try.underlying26 h
  simp only [cellsOf_sz, sz26] at hl
  simp only [List.mem_cons, List.not_mem_nil, or_false, forall_eq_or_imp, forall_eq, cellsOf_sz, sz22, sz3, sz23, sz24] at hf
  match cs, hl, hf with
  | [c0, c1, c2, c3, c4, c5, c6, c7, c8, c9, c10, c11, c12], _, ⟨⟨y0, h0⟩, ⟨y1, h1⟩, ⟨y2, h2⟩, ⟨y3, h3⟩, ⟨y4, h4⟩, ⟨y5, h5⟩, ⟨y6, h6⟩, ⟨y7, h7⟩, ⟨y8, h8⟩, ⟨y9, h9⟩, ⟨y10, h10⟩, ⟨y11, h11⟩, ⟨y12, h12⟩⟩ =>
    obtain ⟨b0, e0⟩ := rd_u64 Try.underlying22 h0
    obtain ⟨b1, e1⟩ := rd_u64 Try.underlying22 h1
    obtain ⟨n2, e2⟩ := rd_int Try.underlying3 h2
    obtain ⟨n3, e3⟩ := rd_int Try.underlying3 h3
    obtain ⟨n4, e4⟩ := rd_int Try.underlying3 h4
    obtain ⟨n5, e5⟩ := rd_int Try.underlying3 h5
    obtain ⟨n6, e6⟩ := rd_int Try.underlying3 h6
    obtain ⟨n7, e7⟩ := rd_int Try.underlying3 h7
    obtain ⟨n8, e8⟩ := rd_int Try.underlying3 h8
    obtain ⟨n9, e9⟩ := rd_int Try.underlying3 h9
    obtain ⟨n10, e10⟩ := rd_int Try.underlying3 h10
    obtain ⟨l, u, e11, r11⟩ := rd_slice (s := 6) (f := Oxm.enc) Try.underlying23 (by kernel_rfl) (by omega) Oxm.len rdOxm h11
    obtain ⟨k, u', e12, r12⟩ := rd_slice (s := 7) (f := Inst.enc) Try.underlying24 (by kernel_rfl) (by omega) Inst.len rdInst h12
    simp at e0 e1 e2 e3 e4 e5 e6 e7 e8 e9 e10 e11 e12
    subst e0 e1 e2 e3 e4 e5 e6 e7 e8 e9 e10 e11 e12
    have hh : RelL E0 (GWh w) [.int .u64 (uI b0), .int .u64 (uI b1), .int .i64 n2, .int .i64 n3, .int .i64 n4, .int .i64 n5, .int .i64 n6, .int .i64 n7, .int .i64 n8, .int .i64 n9, .int .i64 n10]
        [.int .u64 (uI b0), .int .u64 (uI b1), .int .i64 n2, .int .i64 n3, .int .i64 n4, .int .i64 n5, .int .i64 n6, .int .i64 n7, .int .i64 n8, .int .i64 n9, .int .i64 n10] := by simp [RelL, Rel]
    exact ⟨⟨b0, b1, n2, n3, n4, n5, n6, n7, n8, n9, n10, l, k⟩, hh.append (RelL.cons r11 (RelL.cons r12 RelL.nil)),
      (Ones.append (vs := [_, _, _, _, _, _, _, _, _, _, _]) (by simp [Ones, Value.oneCell']) (Ones.append (vs := [_]) (Ones.single (one_of_sl r11)) (Ones.single (one_of_sl r12))))⟩
end
end Go.Proofs.Ytibaiiibjnnlkaa
end

section
set_option linter.unusedVariables false
set_option linter.unusedSimpArgs false
namespace Go.Proofs.Ytibaiiibjnnlkaa
open Go Go.AI Go.Proofs Go.Proofs.Ytibaiiibjnnlkaa
theorem law_own : ownKnob Try.prog.godebug = none := by kernel_rfl
theorem law_laid : laidOutB Try.prog = true := by kernel_rfl
def zeroFlowMod : Array Value := #[.int .u64 0, .int .u64 0, .int .i64 0, .int .i64 0, .int .i64 0, .int .i64 0, .int .i64 0, .int .i64 0, .int .i64 0, .int .i64 0, .int .i64 0, .slice none 0 0, .slice none 0 0]
def zeroCells (n : Nat) : Array Value := (List.replicate n (Value.int .u64 0)).toArray
theorem rdvFlowMod : RdV Try.prog 26 (fun a => ∃ x, a = .agg (FlowMod.enc x)) := rdV_agg (.inl ⟨_, Try.underlying26⟩) (fun _ _ _ => rdFlowMod)
end Go.Proofs.Ytibaiiibjnnlkaa
end

section
set_option linter.unusedVariables false
set_option linter.unusedSimpArgs false
namespace Go.Proofs.Ytibaiiibjnnlkaa
open Go Go.AI Go.Proofs

theorem less_c (a b : Wide) : FnP Try.prog 75 [.agg a.enc, .agg b.enc] (.agg (a.less b).enc) := by
  refine FnP.intro Try.func75 rfl rfl fun G w => ?_
  repeat (refine WK.seq ?_)
  refine WK.reg 100 Try.ntmps75 (by kernel_rfl) ?_
  intro A hA Q hQ
  simp
  refine hQ _ _ ?_
  clear hQ hA
  repeat (refine WK.seq ?_)
  refine WK.reg 200 Try.ntmps75 (by kernel_rfl) ?_
  intro A hA Q hQ
  simp [Wide.enc]
  refine hQ _ _ ?_
  clear hQ hA
  refine WK.ret Try.func75 (by simp (maxDischargeDepth := 120) [Try.results75, Wide.enc, Wide.less]) (by simp [Wide.enc, Wide.less])
theorem zero_c (a : Wide) : FnP Try.prog 72 [.agg a.enc] (.bool a.zero) := by
  refine FnP.intro Try.func72 rfl rfl fun G w => ?_
  repeat (refine WK.seq ?_)
  refine WK.reg 100 Try.ntmps72 (by kernel_rfl) ?_
  intro A hA Q hQ
  simp
  refine hQ _ _ ?_
  clear hQ hA
  repeat (refine WK.seq ?_)
  refine WK.reg 200 Try.ntmps72 (by kernel_rfl) ?_
  intro A hA Q hQ
  simp [Wide.enc]
  refine hQ _ _ ?_
  clear hQ hA
  refine WK.ret Try.func72 (by simp (maxDischargeDepth := 120) [Try.results72, Wide.zero]) (by simp [Wide.zero])
end Go.Proofs.Ytibaiiibjnnlkaa
end

section
set_option linter.unusedVariables false
set_option linter.unusedSimpArgs false
namespace Go.Proofs.Ytibaiiibjnnlkaa
open Go Go.AI Go.Proofs

theorem fright_c (f : Int) : FnP Try.prog 70 [.int .i64 f] (.bool (fRight f)) := by
  cases h : decide (f ≥ 0)
  all_goals
    refine FnP.intro Try.func70 rfl rfl fun G w => ?_
    repeat (refine WK.seq ?_)
    refine WK.reg 100 Try.ntmps70 (by kernel_rfl) ?_
    intro A hA Q hQ
    simp
    refine hQ _ _ ?_
    clear hQ hA
    repeat (refine WK.seq ?_)
    refine WK.reg 200 Try.ntmps70 (by kernel_rfl) ?_
    intro A hA Q hQ
    have hg2 : (A[2]?).bind (·.dst) = some 5 := by rw [hA]; rfl
    simp [h, hg2]
    refine hQ _ _ ?_
    clear hQ hA
    refine WK.ret Try.func70 (by simp (maxDischargeDepth := 120) [Try.results70, fRight, h]) (by simp [fRight, h])
def rowsC : List AV := fRows.flatMap rowEnc
@[simp] theorem rowsC_len : rowsC.length = 96 := rfl
theorem rows_c : FnP Try.prog 87 [] (.agg rowsC) := by
  refine FnP.intro Try.func87 rfl rfl fun G w => ?_
  repeat (refine WK.seq ?_)
  refine WK.reg 100 Try.ntmps87 (by kernel_rfl) ?_
  intro A hA Q hQ
  simp
  refine hQ _ _ ?_
  clear hQ hA
  repeat (refine WK.seq ?_)
  refine WK.reg 200 Try.ntmps87 (by kernel_rfl) ?_
  intro A hA Q hQ
  simp
  refine hQ _ _ ?_
  clear hQ hA
  refine WK.ret Try.func87 (by simp (maxDischargeDepth := 120) [Try.results87, rowsC, fRows, rowEnc]) (by simp [rowsC, fRows, rowEnc])
theorem rowEnc_len (r : Int × Int × Bool) : (rowEnc r).length = 4 := rfl
theorem rowEnc_cl (r : Int × Int × Bool) : ClL (rowEnc r) = true := by simp [rowEnc, ClL, Cl]
theorem row_sub (f : Int) (h : 0 ≤ f ∧ f < 24) : (rowsC.drop (f.toNat * 4)).take 4 = rowEnc (fRow f) := by
  unfold rowsC
  rw [fm_nth rowEnc_len _ _ (by show f.toNat < 24; omega)]
  unfold fRow; rw [if_pos h]
theorem fat_c (f : Int) : FnP Try.prog 73 [.int .i64 f] (.agg (rowEnc (fRow f))) := by
  refine FnP.intro Try.func73 rfl rfl fun G w => ?_
  repeat (refine WK.seq ?_)
  refine WK.reg 100 Try.ntmps73 (by kernel_rfl) ?_
  intro A hA Q hQ
  simp
  refine hQ _ _ ?_
  clear hQ hA
  repeat (refine WK.seq ?_)
  refine WK.reg 200 Try.ntmps73 (by kernel_rfl) ?_
  intro A hA Q hQ
  simp
  refine RunQ.call rfl rfl rfl rfl (by rfl) (by simp (maxDischargeDepth := 120)) (fright_c f) (by simp) ?_
  refine RunQ.eval ?_
  simp
  refine hQ _ _ ?_
  clear hQ hA
  refine WK.cond2 rfl (fun h => ?_) (fun h => ?_)
  · simp [fRight] at h
    have h2 : fRow f = (-1, 0, false) := by unfold fRow; rw [if_neg (by omega)]
    repeat (refine WK.seq ?_)
    refine WK.reg 300 Try.ntmps73 (by kernel_rfl) ?_
    intro A hA Q hQ
    simp
    refine hQ _ _ ?_
    clear hQ hA
    refine WK.ret Try.func73 (by simp (maxDischargeDepth := 120) [Try.results73, h2, rowEnc]) (by simp [h2, rowEnc])
  · simp [fRight] at h
    have h3 : f.toNat * 4 + 4 ≤ 96 := by omega
    repeat (first | refine WK.seq ?_ | refine WK.skip ?_)
    refine WK.reg 400 Try.ntmps73 (by kernel_rfl) ?_
    intro A hA Q hQ
    simp
    refine RunQ.call rfl rfl rfl rfl (by rfl) (by simp (maxDischargeDepth := 120) [h, h3, row_sub f h, rowEnc_len]) (rows_c) (by simp [h, h3, row_sub f h, rowEnc_len]) ?_
    refine RunQ.eval ?_
    simp [h, h3, row_sub f h, rowEnc_len]
    refine hQ _ _ ?_
    clear hQ hA
    refine WK.ret Try.func73 (by simp (maxDischargeDepth := 120) [Try.results73, rowEnc]) (by simp [rowEnc])
theorem fbits_c (f : Int) : FnP Try.prog 79 [.int .i64 f] (.int .i64 (fBits f)) := by
  refine FnP.intro Try.func79 rfl rfl fun G w => ?_
  repeat (refine WK.seq ?_)
  refine WK.reg 100 Try.ntmps79 (by kernel_rfl) ?_
  intro A hA Q hQ
  simp
  refine hQ _ _ ?_
  clear hQ hA
  repeat (refine WK.seq ?_)
  refine WK.reg 200 Try.ntmps79 (by kernel_rfl) ?_
  intro A hA Q hQ
  simp
  refine RunQ.call rfl rfl rfl rfl (by rfl) (by simp (maxDischargeDepth := 120) [rowEnc]) (fat_c f) (by simp [rowEnc]) ?_
  refine RunQ.eval ?_
  simp [rowEnc]
  refine hQ _ _ ?_
  clear hQ hA
  refine WK.ret Try.func79 (by simp (maxDischargeDepth := 120) [Try.results79, fBits]) (by simp [fBits])
theorem low1_c (n : Int) : FnP Try.prog 90 [.int .i64 n] (.int .u64 (uI (low64 n))) := by
  refine FnP.intro Try.func90 rfl rfl fun G w => ?_
  repeat (refine WK.seq ?_)
  refine WK.reg 100 Try.ntmps90 (by kernel_rfl) ?_
  intro A hA Q hQ
  simp
  refine hQ _ _ ?_
  clear hQ hA
  repeat (refine WK.seq ?_)
  refine WK.reg 200 Try.ntmps90 (by kernel_rfl) ?_
  intro A hA Q hQ
  simp
  refine hQ _ _ ?_
  clear hQ hA
  refine WK.cond2 rfl (fun h => ?_) (fun h => ?_)
  · simp at h
    have e : uI (low64 n) = 18446744073709551615 := by rw [low64_ge h]; exact low64_big
    repeat (refine WK.seq ?_)
    refine WK.reg 300 Try.ntmps90 (by kernel_rfl) ?_
    intro A hA Q hQ
    simp
    refine hQ _ _ ?_
    clear hQ hA
    refine WK.ret Try.func90 (by simp (maxDischargeDepth := 120) [Try.results90, e]) (by simp [e])
  · simp at h
    by_cases hn : n < 0
    · have e := low64_small (n := 0) (by omega) (by omega)
      have e2 := low64_neg hn
      repeat (first | refine WK.seq ?_ | refine WK.skip ?_)
      refine WK.reg 400 Try.ntmps90 (by kernel_rfl) ?_
      intro A hA Q hQ
      simp [hn, e]
      refine hQ _ _ ?_
      clear hQ hA
      refine WK.ret Try.func90 (by simp (maxDischargeDepth := 120) [Try.results90, e2]) (by simp [e2])
    · have e := low64_small (n := n) (by omega) h
      repeat (first | refine WK.seq ?_ | refine WK.skip ?_)
      refine WK.reg 500 Try.ntmps90 (by kernel_rfl) ?_
      intro A hA Q hQ
      simp [hn, e]
      refine hQ _ _ ?_
      clear hQ hA
      refine WK.ret Try.func90 (by simp (maxDischargeDepth := 120) [Try.results90]) (by simp)
theorem low_c (n : Int) : FnP Try.prog 78 [.int .i64 n] (.agg (lowW n).enc) := by
  have hc := clamp_le n
  have e : IntKind.i64.wrap (clamp n - 64) = clamp n - 64 := wrap_i64 (by omega) (by omega)
  refine FnP.intro Try.func78 rfl rfl fun G w => ?_
  repeat (refine WK.seq ?_)
  refine WK.reg 100 Try.ntmps78 (by kernel_rfl) ?_
  intro A hA Q hQ
  simp
  refine hQ _ _ ?_
  clear hQ hA
  repeat (refine WK.seq ?_)
  refine WK.reg 200 Try.ntmps78 (by kernel_rfl) ?_
  intro A hA Q hQ
  simp [clamp_eq]
  refine hQ _ _ ?_
  clear hQ hA
  repeat (refine WK.seq ?_)
  refine WK.reg 300 Try.ntmps78 (by kernel_rfl) ?_
  intro A hA Q hQ
  simp [e]
  refine RunQ.call rfl rfl rfl rfl (by rfl) (by simp (maxDischargeDepth := 120)) (low1_c (clamp n - 64)) (by simp) ?_
  refine RunQ.eval ?_
  simp
  refine RunQ.call rfl rfl rfl rfl (by rfl) (by simp (maxDischargeDepth := 120)) (low1_c (clamp n)) (by simp) ?_
  refine RunQ.eval ?_
  simp
  refine hQ _ _ ?_
  clear hQ hA
  refine WK.ret Try.func78 (by simp (maxDischargeDepth := 120) [Try.results78, lowW, Wide.enc]) (by simp [lowW, Wide.enc])
end Go.Proofs.Ytibaiiibjnnlkaa
end

section
set_option linter.unusedVariables false
set_option linter.unusedSimpArgs false
namespace Go.Proofs.Ytibaiiibjnnlkaa
open Go Go.AI Go.Proofs

def eqBy {α : Type} [Inhabited α] (p : α → α → Bool) (l m : List α) : Bool := l.length == m.length && (List.range l.length).all fun i => p (nth l i) (nth m i)

theorem eqf_oxm (fid : Nat) (caps : List AV) (p : Oxm → Oxm → Bool) (l m : List Oxm) (hcl : ClL caps = true) (hl : l.length ≤ 1000000)
    (hf : ∀ x, x ∈ l → ∀ y, y ∈ m → FnP Try.prog fid (.agg x.enc :: .agg y.enc :: caps) (.bool (p x y))) :
    FnP Try.prog 47 [oxmS l, oxmS m, .fn fid caps] (.bool (eqBy p l m)) := by
  unfold oxmS
  refine FnP.intro Try.func47 rfl rfl fun G w => ?_
  repeat (first | refine WK.seq ?_ | refine WK.block ?_ | refine WK.inBlock ?_ | refine WK.skip ?_ | refine WK.label ?_ | refine WK.scope ?_ | refine WK.inScope ?_ | refine WK.exit rfl ?_)
  first | refine WK.reg 100 Try.ntmps47 (by kernel_rfl) ?_ | refine WK.regD 100 clsOf (by kernel_rfl) Try.ntmps47 (by kernel_rfl) (by kernel_rfl) ?_
  intro A hA Q hQ
  simp
  refine hQ _ _ ?_
  clear hQ hA
  repeat (first | refine WK.seq ?_ | refine WK.block ?_ | refine WK.inBlock ?_ | refine WK.skip ?_ | refine WK.label ?_ | refine WK.scope ?_ | refine WK.inScope ?_ | refine WK.exit rfl ?_)
  first | refine WK.reg 200 Try.ntmps47 (by kernel_rfl) ?_ | refine WK.regD 200 clsOf (by kernel_rfl) Try.ntmps47 (by kernel_rfl) (by kernel_rfl) ?_
  intro A hA Q hQ
  simp
  refine hQ _ _ ?_
  clear hQ hA
  repeat (first | refine WK.seq ?_ | refine WK.block ?_ | refine WK.inBlock ?_ | refine WK.skip ?_ | refine WK.label ?_ | refine WK.scope ?_ | refine WK.inScope ?_ | refine WK.exit rfl ?_)
  refine WK.cond2 rfl (fun h => ?_) (fun h => ?_)
  · simp at h
    have e : eqBy p l m = false := by unfold eqBy; simp; intro e; omega
    repeat (first | refine WK.seq ?_ | refine WK.block ?_ | refine WK.inBlock ?_ | refine WK.skip ?_ | refine WK.label ?_ | refine WK.scope ?_ | refine WK.inScope ?_ | refine WK.exit rfl ?_)
    first | refine WK.reg 300 Try.ntmps47 (by kernel_rfl) ?_ | refine WK.regD 300 clsOf (by kernel_rfl) Try.ntmps47 (by kernel_rfl) (by kernel_rfl) ?_
    intro A hA Q hQ
    simp
    refine hQ _ _ ?_
    clear hQ hA
    repeat (first | refine WK.seq ?_ | refine WK.block ?_ | refine WK.inBlock ?_ | refine WK.skip ?_ | refine WK.label ?_ | refine WK.scope ?_ | refine WK.inScope ?_ | refine WK.exit rfl ?_)
    refine WK.ret Try.func47 (by simp (maxDischargeDepth := 120) [Try.results47, e]) (by simp [e])
  · simp at h
    have hlm : l.length = m.length := by omega
    repeat (first | refine WK.seq ?_ | refine WK.block ?_ | refine WK.inBlock ?_ | refine WK.skip ?_ | refine WK.label ?_ | refine WK.scope ?_ | refine WK.inScope ?_ | refine WK.exit rfl ?_)
    first | refine WK.reg 400 Try.ntmps47 (by kernel_rfl) ?_ | refine WK.regD 400 clsOf (by kernel_rfl) Try.ntmps47 (by kernel_rfl) (by kernel_rfl) ?_
    intro A hA Q hQ
    simp
    refine hQ _ _ ?_
    clear hQ hA
    repeat (first | refine WK.seq ?_ | refine WK.block ?_ | refine WK.inBlock ?_ | refine WK.skip ?_ | refine WK.label ?_ | refine WK.scope ?_ | refine WK.inScope ?_ | refine WK.exit rfl ?_)
    refine WK.loopI (fun n => n) (fun i : Nat => (⟨(upd (upd (upd (upd (upd (upd J 0 (.sl false l.length (oxmL l))) 1 (.sl false m.length (oxmL m))) 2 (.fn fid caps)) 15 (.sl false l.length (oxmL l))) 16 (.int .i64 l.length)) 17 (.int .i64 i)), B0, 0⟩ : St)) (fun i => i ≤ l.length ∧ ∀ j, j < i → p (nth l j) (nth m j) = true) (fun i => l.length - i) (0) (by repeat (first | exact TmW.nil | refine TmW.upd ?_ (by simp (maxDischargeDepth := 120) [hcl]))) (by repeat (first | exact BxW.nil | refine BxW.upd ?_ (by simp (maxDischargeDepth := 120) [hcl]))) (by first | exact InjW.id | exact InjW.nil | exact InjW.one | exact InjW.two (by simp) | exact InjW.three (by simp) (by simp) (by simp)) (⟨by omega, by simp⟩) (fun i hi IH => ?_)
    repeat (first | refine WK.seq ?_ | refine WK.block ?_ | refine WK.inBlock ?_ | refine WK.skip ?_ | refine WK.label ?_ | refine WK.scope ?_ | refine WK.inScope ?_ | refine WK.exit rfl ?_)
    first | refine WK.reg 500 Try.ntmps47 (by kernel_rfl) ?_ | refine WK.regD 500 clsOf (by kernel_rfl) Try.ntmps47 (by kernel_rfl) (by kernel_rfl) ?_
    intro A hA Q hQ
    simp
    refine hQ _ _ ?_
    clear hQ hA
    repeat (first | refine WK.seq ?_ | refine WK.block ?_ | refine WK.inBlock ?_ | refine WK.skip ?_ | refine WK.label ?_ | refine WK.scope ?_ | refine WK.inScope ?_ | refine WK.exit rfl ?_)
    refine WK.cond2 rfl (fun h1 => ?_) (fun h1 => ?_)
    · simp at h1
      have h2 : i < l.length := by omega
      have h2' : i < m.length := by omega
      have h3 : 6 ≤ l.length * 6 - i * 6 := by omega
      have h3' : 6 ≤ m.length * 6 - i * 6 := by omega
      have h4 := oxm_sub l i h2
      have h4' := oxm_sub m i h2'
      have h6 : IntKind.i64.wrap ((i : Int) + 1) = i + 1 := wrap_i64 (by omega) (by omega)
      repeat (first | refine WK.seq ?_ | refine WK.block ?_ | refine WK.inBlock ?_ | refine WK.skip ?_ | refine WK.label ?_ | refine WK.scope ?_ | refine WK.inScope ?_ | refine WK.exit rfl ?_)
      first | refine WK.reg 600 Try.ntmps47 (by kernel_rfl) ?_ | refine WK.regD 600 clsOf (by kernel_rfl) Try.ntmps47 (by kernel_rfl) (by kernel_rfl) ?_
      intro A hA Q hQ
      simp [h2, h3, h4]
      refine hQ _ _ ?_
      clear hQ hA
      repeat (first | refine WK.seq ?_ | refine WK.block ?_ | refine WK.inBlock ?_ | refine WK.skip ?_ | refine WK.label ?_ | refine WK.scope ?_ | refine WK.inScope ?_ | refine WK.exit rfl ?_)
      first | refine WK.reg 700 Try.ntmps47 (by kernel_rfl) ?_ | refine WK.regD 700 clsOf (by kernel_rfl) Try.ntmps47 (by kernel_rfl) (by kernel_rfl) ?_
      intro A hA Q hQ
      simp [h2', h3', h4']
      refine hQ _ _ ?_
      clear hQ hA
      repeat (first | refine WK.seq ?_ | refine WK.block ?_ | refine WK.inBlock ?_ | refine WK.skip ?_ | refine WK.label ?_ | refine WK.scope ?_ | refine WK.inScope ?_ | refine WK.exit rfl ?_)
      first | refine WK.reg 800 Try.ntmps47 (by kernel_rfl) ?_ | refine WK.regD 800 clsOf (by kernel_rfl) Try.ntmps47 (by kernel_rfl) (by kernel_rfl) ?_
      intro A hA Q hQ
      simp
      refine RunQ.call rfl rfl rfl rfl (by rfl) (by simp (maxDischargeDepth := 120) [hcl]) (hf (nth l i) (nth_mem h2) (nth m i) (nth_mem h2')) (by simp [hcl]) ?_
      refine RunQ.eval ?_
      simp [hcl]
      refine hQ _ _ ?_
      clear hQ hA
      repeat (first | refine WK.seq ?_ | refine WK.block ?_ | refine WK.inBlock ?_ | refine WK.skip ?_ | refine WK.label ?_ | refine WK.scope ?_ | refine WK.inScope ?_ | refine WK.exit rfl ?_)
      refine WK.cond2 rfl (fun h5 => ?_) (fun h5 => ?_)
      · simp at h5
        have e : eqBy p l m = false := by unfold eqBy; rw [all_range_false (p := fun i => p (nth l i) (nth m i)) h2 h5]; simp
        repeat (first | refine WK.seq ?_ | refine WK.block ?_ | refine WK.inBlock ?_ | refine WK.skip ?_ | refine WK.label ?_ | refine WK.scope ?_ | refine WK.inScope ?_ | refine WK.exit rfl ?_)
        first | refine WK.reg 900 Try.ntmps47 (by kernel_rfl) ?_ | refine WK.regD 900 clsOf (by kernel_rfl) Try.ntmps47 (by kernel_rfl) (by kernel_rfl) ?_
        intro A hA Q hQ
        simp
        refine hQ _ _ ?_
        clear hQ hA
        repeat (first | refine WK.seq ?_ | refine WK.block ?_ | refine WK.inBlock ?_ | refine WK.skip ?_ | refine WK.label ?_ | refine WK.scope ?_ | refine WK.inScope ?_ | refine WK.exit rfl ?_)
        refine WK.ret Try.func47 (by simp (maxDischargeDepth := 120) [Try.results47, e]) (by simp [e])
      · simp at h5
        repeat (first | refine WK.seq ?_ | refine WK.block ?_ | refine WK.inBlock ?_ | refine WK.skip ?_ | refine WK.label ?_ | refine WK.scope ?_ | refine WK.inScope ?_ | refine WK.exit rfl ?_)
        first | refine WK.reg 1000 Try.ntmps47 (by kernel_rfl) ?_ | refine WK.regD 1000 clsOf (by kernel_rfl) Try.ntmps47 (by kernel_rfl) (by kernel_rfl) ?_
        intro A hA Q hQ
        simp [h6]
        refine hQ _ _ ?_
        clear hQ hA
        repeat (first | refine WK.seq ?_ | refine WK.block ?_ | refine WK.inBlock ?_ | refine WK.skip ?_ | refine WK.label ?_ | refine WK.scope ?_ | refine WK.inScope ?_ | refine WK.exit rfl ?_)
        refine WK.next (fun n => n) (IH (i + 1) (⟨by omega, fun j hj => by by_cases h7 : j = i; (subst h7; exact h5); exact hi.2 j (by omega)⟩) (by first | omega | (dsimp only; omega))) (by repeat (first | exact TmW.nil | refine TmW.upd ?_ (by simp (maxDischargeDepth := 120) [hcl]))) (by repeat (first | exact BxW.nil | refine BxW.upd ?_ (by simp (maxDischargeDepth := 120) [hcl]))) (by first | exact InjW.id | exact InjW.nil | exact InjW.one | exact InjW.two (by simp) | exact InjW.three (by simp) (by simp) (by simp))
    · simp at h1
      have e : eqBy p l m = true := by unfold eqBy; rw [all_range_true (p := fun i => p (nth l i) (nth m i)) (fun j hj => hi.2 j (by omega))]; simp [hlm]
      repeat (first | refine WK.seq ?_ | refine WK.block ?_ | refine WK.inBlock ?_ | refine WK.skip ?_ | refine WK.label ?_ | refine WK.scope ?_ | refine WK.inScope ?_ | refine WK.exit rfl ?_)
      first | refine WK.reg 1100 Try.ntmps47 (by kernel_rfl) ?_ | refine WK.regD 1100 clsOf (by kernel_rfl) Try.ntmps47 (by kernel_rfl) (by kernel_rfl) ?_
      intro A hA Q hQ
      simp
      refine hQ _ _ ?_
      clear hQ hA
      repeat (first | refine WK.seq ?_ | refine WK.block ?_ | refine WK.inBlock ?_ | refine WK.skip ?_ | refine WK.label ?_ | refine WK.scope ?_ | refine WK.inScope ?_ | refine WK.exit rfl ?_)
      refine WK.ret Try.func47 (by simp (maxDischargeDepth := 120) [Try.results47, e]) (by simp [e])
theorem eqf_inst (fid : Nat) (caps : List AV) (p : Inst → Inst → Bool) (l m : List Inst) (hcl : ClL caps = true) (hl : l.length ≤ 1000000)
    (hf : ∀ x, x ∈ l → ∀ y, y ∈ m → FnP Try.prog fid (.agg x.enc :: .agg y.enc :: caps) (.bool (p x y))) :
    FnP Try.prog 49 [instS l, instS m, .fn fid caps] (.bool (eqBy p l m)) := by
  unfold instS
  refine FnP.intro Try.func49 rfl rfl fun G w => ?_
  repeat (refine WK.seq ?_)
  refine WK.reg 100 Try.ntmps49 (by kernel_rfl) ?_
  intro A hA Q hQ
  simp
  refine hQ _ _ ?_
  clear hQ hA
  repeat (refine WK.seq ?_)
  refine WK.reg 200 Try.ntmps49 (by kernel_rfl) ?_
  intro A hA Q hQ
  simp
  refine hQ _ _ ?_
  clear hQ hA
  refine WK.cond2 rfl (fun h => ?_) (fun h => ?_)
  · simp at h
    have e : eqBy p l m = false := by unfold eqBy; simp; intro e; omega
    repeat (refine WK.seq ?_)
    refine WK.reg 300 Try.ntmps49 (by kernel_rfl) ?_
    intro A hA Q hQ
    simp
    refine hQ _ _ ?_
    clear hQ hA
    refine WK.ret Try.func49 (by simp (maxDischargeDepth := 120) [Try.results49, e]) (by simp [e])
  · simp at h
    have hlm : l.length = m.length := by omega
    repeat (first | refine WK.seq ?_ | refine WK.skip ?_)
    refine WK.reg 400 Try.ntmps49 (by kernel_rfl) ?_
    intro A hA Q hQ
    simp
    refine hQ _ _ ?_
    clear hQ hA
    repeat (refine WK.block ?_)
    refine WK.loopI (fun n => n) (fun i : Nat => (⟨(upd (upd (upd (upd (upd (upd J 0 (.sl false l.length (instL l))) 1 (.sl false m.length (instL m))) 2 (.fn fid caps)) 15 (.sl false l.length (instL l))) 16 (.int .i64 l.length)) 17 (.int .i64 i)), B0, 0⟩ : St)) (fun i => i ≤ l.length ∧ ∀ j, j < i → p (nth l j) (nth m j) = true) (fun i => l.length - i) (0) (by repeat (first | exact TmW.nil | refine TmW.upd ?_ (by simp (maxDischargeDepth := 120) [hcl]))) (by repeat (first | exact BxW.nil | refine BxW.upd ?_ (by simp (maxDischargeDepth := 120) [hcl]))) (by first | exact InjW.id | exact InjW.nil | exact InjW.one | exact InjW.two (by simp) | exact InjW.three (by simp) (by simp) (by simp)) (⟨by omega, by simp⟩) (fun i hi IH => ?_)
    repeat (refine WK.seq ?_)
    refine WK.reg 500 Try.ntmps49 (by kernel_rfl) ?_
    intro A hA Q hQ
    simp
    refine hQ _ _ ?_
    clear hQ hA
    repeat (refine WK.seq ?_)
    refine WK.cond2 rfl (fun h1 => ?_) (fun h1 => ?_)
    · simp at h1
      have h2 : i < l.length := by omega
      have h2' : i < m.length := by omega
      have h3 : 7 ≤ l.length * 7 - i * 7 := by omega
      have h3' : 7 ≤ m.length * 7 - i * 7 := by omega
      have h4 := inst_sub l i h2
      have h4' := inst_sub m i h2'
      have h6 : IntKind.i64.wrap ((i : Int) + 1) = i + 1 := wrap_i64 (by omega) (by omega)
      repeat (first | refine WK.seq ?_ | refine WK.block ?_ | refine WK.skip ?_)
      refine WK.reg 600 Try.ntmps49 (by kernel_rfl) ?_
      intro A hA Q hQ
      simp [h2, h3, h4]
      refine hQ _ _ ?_
      clear hQ hA
      repeat (refine WK.seq ?_)
      refine WK.reg 700 Try.ntmps49 (by kernel_rfl) ?_
      intro A hA Q hQ
      simp [h2', h3', h4']
      refine hQ _ _ ?_
      clear hQ hA
      repeat (refine WK.seq ?_)
      refine WK.reg 800 Try.ntmps49 (by kernel_rfl) ?_
      intro A hA Q hQ
      simp
      refine RunQ.call rfl rfl rfl rfl (by rfl) (by simp (maxDischargeDepth := 120) [hcl]) (hf (nth l i) (nth_mem h2) (nth m i) (nth_mem h2')) (by simp [hcl]) ?_
      refine RunQ.eval ?_
      simp [hcl]
      refine hQ _ _ ?_
      clear hQ hA
      refine WK.cond2 rfl (fun h5 => ?_) (fun h5 => ?_)
      · simp at h5
        have e : eqBy p l m = false := by unfold eqBy; rw [all_range_false (p := fun i => p (nth l i) (nth m i)) h2 h5]; simp
        repeat (refine WK.seq ?_)
        refine WK.reg 900 Try.ntmps49 (by kernel_rfl) ?_
        intro A hA Q hQ
        simp
        refine hQ _ _ ?_
        clear hQ hA
        refine WK.ret Try.func49 (by simp (maxDischargeDepth := 120) [Try.results49, e]) (by simp [e])
      · simp at h5
        repeat (first | refine WK.inBlock ?_ | refine WK.skip ?_)
        refine WK.reg 1000 Try.ntmps49 (by kernel_rfl) ?_
        intro A hA Q hQ
        simp [h6]
        refine hQ _ _ ?_
        clear hQ hA
        refine WK.next (fun n => n) (IH (i + 1) (⟨by omega, fun j hj => by by_cases h7 : j = i; (subst h7; exact h5); exact hi.2 j (by omega)⟩) (by first | omega | (dsimp only; omega))) (by repeat (first | exact TmW.nil | refine TmW.upd ?_ (by simp (maxDischargeDepth := 120) [hcl]))) (by repeat (first | exact BxW.nil | refine BxW.upd ?_ (by simp (maxDischargeDepth := 120) [hcl]))) (by first | exact InjW.id | exact InjW.nil | exact InjW.one | exact InjW.two (by simp) | exact InjW.three (by simp) (by simp) (by simp))
    · simp at h1
      have e : eqBy p l m = true := by unfold eqBy; rw [all_range_true (p := fun i => p (nth l i) (nth m i)) (fun j hj => hi.2 j (by omega))]; simp [hlm]
      repeat (first | refine WK.seq ?_ | refine WK.exit rfl ?_)
      refine WK.reg 1100 Try.ntmps49 (by kernel_rfl) ?_
      intro A hA Q hQ
      simp
      refine hQ _ _ ?_
      clear hQ hA
      refine WK.ret Try.func49 (by simp (maxDischargeDepth := 120) [Try.results49, e]) (by simp [e])
theorem eqf_act (fid : Nat) (caps : List AV) (p : Action → Action → Bool) (l m : List Action) (hcl : ClL caps = true) (hl : l.length ≤ 1000000)
    (hf : ∀ x, x ∈ l → ∀ y, y ∈ m → FnP Try.prog fid (.agg x.enc :: .agg y.enc :: caps) (.bool (p x y))) :
    FnP Try.prog 82 [actS l, actS m, .fn fid caps] (.bool (eqBy p l m)) := by
  unfold actS
  refine FnP.intro Try.func82 rfl rfl fun G w => ?_
  repeat (refine WK.seq ?_)
  refine WK.reg 100 Try.ntmps82 (by kernel_rfl) ?_
  intro A hA Q hQ
  simp
  refine hQ _ _ ?_
  clear hQ hA
  repeat (refine WK.seq ?_)
  refine WK.reg 200 Try.ntmps82 (by kernel_rfl) ?_
  intro A hA Q hQ
  simp
  refine hQ _ _ ?_
  clear hQ hA
  refine WK.cond2 rfl (fun h => ?_) (fun h => ?_)
  · simp at h
    have e : eqBy p l m = false := by unfold eqBy; simp; intro e; omega
    repeat (refine WK.seq ?_)
    refine WK.reg 300 Try.ntmps82 (by kernel_rfl) ?_
    intro A hA Q hQ
    simp
    refine hQ _ _ ?_
    clear hQ hA
    refine WK.ret Try.func82 (by simp (maxDischargeDepth := 120) [Try.results82, e]) (by simp [e])
  · simp at h
    have hlm : l.length = m.length := by omega
    repeat (first | refine WK.seq ?_ | refine WK.skip ?_)
    refine WK.reg 400 Try.ntmps82 (by kernel_rfl) ?_
    intro A hA Q hQ
    simp
    refine hQ _ _ ?_
    clear hQ hA
    repeat (refine WK.block ?_)
    refine WK.loopI (fun n => n) (fun i : Nat => (⟨(upd (upd (upd (upd (upd (upd J 0 (.sl false l.length (actL l))) 1 (.sl false m.length (actL m))) 2 (.fn fid caps)) 15 (.sl false l.length (actL l))) 16 (.int .i64 l.length)) 17 (.int .i64 i)), B0, 0⟩ : St)) (fun i => i ≤ l.length ∧ ∀ j, j < i → p (nth l j) (nth m j) = true) (fun i => l.length - i) (0) (by repeat (first | exact TmW.nil | refine TmW.upd ?_ (by simp (maxDischargeDepth := 120) [hcl]))) (by repeat (first | exact BxW.nil | refine BxW.upd ?_ (by simp (maxDischargeDepth := 120) [hcl]))) (by first | exact InjW.id | exact InjW.nil | exact InjW.one | exact InjW.two (by simp) | exact InjW.three (by simp) (by simp) (by simp)) (⟨by omega, by simp⟩) (fun i hi IH => ?_)
    repeat (refine WK.seq ?_)
    refine WK.reg 500 Try.ntmps82 (by kernel_rfl) ?_
    intro A hA Q hQ
    simp
    refine hQ _ _ ?_
    clear hQ hA
    repeat (refine WK.seq ?_)
    refine WK.cond2 rfl (fun h1 => ?_) (fun h1 => ?_)
    · simp at h1
      have h2 : i < l.length := by omega
      have h2' : i < m.length := by omega
      have h3 : 11 ≤ l.length * 11 - i * 11 := by omega
      have h3' : 11 ≤ m.length * 11 - i * 11 := by omega
      have h4 := act_sub l i h2
      have h4' := act_sub m i h2'
      have h6 : IntKind.i64.wrap ((i : Int) + 1) = i + 1 := wrap_i64 (by omega) (by omega)
      repeat (first | refine WK.seq ?_ | refine WK.block ?_ | refine WK.skip ?_)
      refine WK.reg 600 Try.ntmps82 (by kernel_rfl) ?_
      intro A hA Q hQ
      simp [h2, h3, h4]
      refine hQ _ _ ?_
      clear hQ hA
      repeat (refine WK.seq ?_)
      refine WK.reg 700 Try.ntmps82 (by kernel_rfl) ?_
      intro A hA Q hQ
      simp [h2', h3', h4']
      refine hQ _ _ ?_
      clear hQ hA
      repeat (refine WK.seq ?_)
      refine WK.reg 800 Try.ntmps82 (by kernel_rfl) ?_
      intro A hA Q hQ
      simp
      refine RunQ.call rfl rfl rfl rfl (by rfl) (by simp (maxDischargeDepth := 120) [hcl]) (hf (nth l i) (nth_mem h2) (nth m i) (nth_mem h2')) (by simp [hcl]) ?_
      refine RunQ.eval ?_
      simp [hcl]
      refine hQ _ _ ?_
      clear hQ hA
      refine WK.cond2 rfl (fun h5 => ?_) (fun h5 => ?_)
      · simp at h5
        have e : eqBy p l m = false := by unfold eqBy; rw [all_range_false (p := fun i => p (nth l i) (nth m i)) h2 h5]; simp
        repeat (refine WK.seq ?_)
        refine WK.reg 900 Try.ntmps82 (by kernel_rfl) ?_
        intro A hA Q hQ
        simp
        refine hQ _ _ ?_
        clear hQ hA
        refine WK.ret Try.func82 (by simp (maxDischargeDepth := 120) [Try.results82, e]) (by simp [e])
      · simp at h5
        repeat (first | refine WK.inBlock ?_ | refine WK.skip ?_)
        refine WK.reg 1000 Try.ntmps82 (by kernel_rfl) ?_
        intro A hA Q hQ
        simp [h6]
        refine hQ _ _ ?_
        clear hQ hA
        refine WK.next (fun n => n) (IH (i + 1) (⟨by omega, fun j hj => by by_cases h7 : j = i; (subst h7; exact h5); exact hi.2 j (by omega)⟩) (by first | omega | (dsimp only; omega))) (by repeat (first | exact TmW.nil | refine TmW.upd ?_ (by simp (maxDischargeDepth := 120) [hcl]))) (by repeat (first | exact BxW.nil | refine BxW.upd ?_ (by simp (maxDischargeDepth := 120) [hcl]))) (by first | exact InjW.id | exact InjW.nil | exact InjW.one | exact InjW.two (by simp) | exact InjW.three (by simp) (by simp) (by simp))
    · simp at h1
      have e : eqBy p l m = true := by unfold eqBy; rw [all_range_true (p := fun i => p (nth l i) (nth m i)) (fun j hj => hi.2 j (by omega))]; simp [hlm]
      repeat (first | refine WK.seq ?_ | refine WK.exit rfl ?_)
      refine WK.reg 1100 Try.ntmps82 (by kernel_rfl) ?_
      intro A hA Q hQ
      simp
      refine hQ _ _ ?_
      clear hQ hA
      refine WK.ret Try.func82 (by simp (maxDischargeDepth := 120) [Try.results82, e]) (by simp [e])

theorem osame_c (a b : Oxm) : FnP Try.prog 48 [.agg a.enc, .agg b.enc] (.bool (a == b)) := by
  refine FnP.intro Try.func48 rfl rfl fun G w => ?_
  repeat (first | refine WK.seq ?_ | refine WK.block ?_ | refine WK.inBlock ?_ | refine WK.skip ?_ | refine WK.label ?_ | refine WK.scope ?_ | refine WK.inScope ?_ | refine WK.exit rfl ?_)
  first | refine WK.reg 100 Try.ntmps48 (by kernel_rfl) ?_ | refine WK.regD 100 clsOf (by kernel_rfl) Try.ntmps48 (by kernel_rfl) (by kernel_rfl) ?_
  intro A hA Q hQ
  simp
  refine hQ _ _ ?_
  clear hQ hA
  repeat (first | refine WK.seq ?_ | refine WK.block ?_ | refine WK.inBlock ?_ | refine WK.skip ?_ | refine WK.label ?_ | refine WK.scope ?_ | refine WK.inScope ?_ | refine WK.exit rfl ?_)
  first | refine WK.reg 200 Try.ntmps48 (by kernel_rfl) ?_ | refine WK.regD 200 clsOf (by kernel_rfl) Try.ntmps48 (by kernel_rfl) (by kernel_rfl) ?_
  intro A hA Q hQ
  simp
  refine hQ _ _ ?_
  clear hQ hA
  repeat (first | refine WK.seq ?_ | refine WK.block ?_ | refine WK.inBlock ?_ | refine WK.skip ?_ | refine WK.label ?_ | refine WK.scope ?_ | refine WK.inScope ?_ | refine WK.exit rfl ?_)
  refine WK.ret Try.func48 (by simp (maxDischargeDepth := 120) [Try.results48]) (by simp)
theorem asame_c (a b : Action) : FnP Try.prog 83 [.agg a.enc, .agg b.enc] (.bool (a == b)) := by
  refine FnP.intro Try.func83 rfl rfl fun G w => ?_
  repeat (refine WK.seq ?_)
  refine WK.reg 100 Try.ntmps83 (by kernel_rfl) ?_
  intro A hA Q hQ
  simp
  refine hQ _ _ ?_
  clear hQ hA
  repeat (refine WK.seq ?_)
  refine WK.reg 200 Try.ntmps83 (by kernel_rfl) ?_
  intro A hA Q hQ
  simp
  refine hQ _ _ ?_
  clear hQ hA
  refine WK.ret Try.func83 (by simp (maxDischargeDepth := 120) [Try.results83]) (by simp)
theorem msame_c (l m : List Oxm) (hl : l.length ≤ 1000000) : FnP Try.prog 25 [oxmS l, oxmS m] (.bool (eqBy (· == ·) l m)) := by
  refine FnP.intro Try.func25 rfl rfl fun G w => ?_
  repeat (first | refine WK.seq ?_ | refine WK.block ?_ | refine WK.inBlock ?_ | refine WK.skip ?_ | refine WK.label ?_ | refine WK.scope ?_ | refine WK.inScope ?_ | refine WK.exit rfl ?_)
  first | refine WK.reg 100 Try.ntmps25 (by kernel_rfl) ?_ | refine WK.regD 100 clsOf (by kernel_rfl) Try.ntmps25 (by kernel_rfl) (by kernel_rfl) ?_
  intro A hA Q hQ
  simp
  refine hQ _ _ ?_
  clear hQ hA
  repeat (first | refine WK.seq ?_ | refine WK.block ?_ | refine WK.inBlock ?_ | refine WK.skip ?_ | refine WK.label ?_ | refine WK.scope ?_ | refine WK.inScope ?_ | refine WK.exit rfl ?_)
  first | refine WK.reg 200 Try.ntmps25 (by kernel_rfl) ?_ | refine WK.regD 200 clsOf (by kernel_rfl) Try.ntmps25 (by kernel_rfl) (by kernel_rfl) ?_
  intro A hA Q hQ
  simp
  refine RunQ.call rfl rfl rfl rfl (by rfl) (by simp (maxDischargeDepth := 120) [oxmS]) (eqf_oxm 48 [] (· == ·) l m rfl hl (fun x _ y _ => osame_c x y)) (by simp [oxmS]) ?_
  refine RunQ.eval ?_
  simp [oxmS]
  refine hQ _ _ ?_
  clear hQ hA
  repeat (first | refine WK.seq ?_ | refine WK.block ?_ | refine WK.inBlock ?_ | refine WK.skip ?_ | refine WK.label ?_ | refine WK.scope ?_ | refine WK.inScope ?_ | refine WK.exit rfl ?_)
  refine WK.ret Try.func25 (by simp (maxDischargeDepth := 120) [Try.results25]) (by simp)
theorem acsame_c (l m : List Action) (hl : l.length ≤ 1000000) : FnP Try.prog 66 [actS l, actS m] (.bool (eqBy (· == ·) l m)) := by
  refine FnP.intro Try.func66 rfl rfl fun G w => ?_
  repeat (refine WK.seq ?_)
  refine WK.reg 100 Try.ntmps66 (by kernel_rfl) ?_
  intro A hA Q hQ
  simp
  refine hQ _ _ ?_
  clear hQ hA
  repeat (refine WK.seq ?_)
  refine WK.reg 200 Try.ntmps66 (by kernel_rfl) ?_
  intro A hA Q hQ
  simp
  refine RunQ.call rfl rfl rfl rfl (by rfl) (by simp (maxDischargeDepth := 120) [actS]) (eqf_act 83 [] (· == ·) l m rfl hl (fun x _ y _ => asame_c x y)) (by simp [actS]) ?_
  refine RunQ.eval ?_
  simp [actS]
  refine hQ _ _ ?_
  clear hQ hA
  refine WK.ret Try.func66 (by simp (maxDischargeDepth := 120) [Try.results66]) (by simp)
def Inst.same (a b : Inst) : Bool := a.kind == b.kind && a.table == b.table && a.value == b.value && a.mask == b.mask && eqBy (· == ·) a.acts b.acts
theorem isame_c (a b : Inst) (hl : a.acts.length ≤ 1000000) : FnP Try.prog 50 [.agg a.enc, .agg b.enc] (.bool (Inst.same a b)) := by
  have w1 := Wide.beq a.value b.value
  have w2 := Wide.beq a.mask b.mask
  cases k1 : a.kind == b.kind
  · refine FnP.intro Try.func50 rfl rfl fun G w => ?_
    repeat (refine WK.seq ?_)
    refine WK.reg 100 Try.ntmps50 (by kernel_rfl) ?_
    intro A hA Q hQ
    simp
    refine hQ _ _ ?_
    clear hQ hA
    repeat (refine WK.seq ?_)
    refine WK.reg 200 Try.ntmps50 (by kernel_rfl) ?_
    intro A hA Q hQ
    have hg5 : (A[5]?).bind (·.dst) = some 10 := by rw [hA]; rfl
    have hg12 : (A[12]?).bind (·.dst) = some 17 := by rw [hA]; rfl
    have hg19 : (A[19]?).bind (·.dst) = some 24 := by rw [hA]; rfl
    have hg26 : (A[26]?).bind (·.dst) = some 31 := by rw [hA]; rfl
    simp [Inst.enc, k1, hg5, hg12, hg19, hg26]
    refine hQ _ _ ?_
    clear hQ hA
    refine WK.ret Try.func50 (by simp (maxDischargeDepth := 120) [Try.results50, Inst.same, k1]) (by simp [Inst.same, k1])
  cases k2 : a.table == b.table
  · refine FnP.intro Try.func50 rfl rfl fun G w => ?_
    repeat (refine WK.seq ?_)
    refine WK.reg 100 Try.ntmps50 (by kernel_rfl) ?_
    intro A hA Q hQ
    simp
    refine hQ _ _ ?_
    clear hQ hA
    repeat (refine WK.seq ?_)
    refine WK.reg 200 Try.ntmps50 (by kernel_rfl) ?_
    intro A hA Q hQ
    have hg5 : (A[5]?).bind (·.dst) = some 10 := by rw [hA]; rfl
    have hg12 : (A[12]?).bind (·.dst) = some 17 := by rw [hA]; rfl
    have hg19 : (A[19]?).bind (·.dst) = some 24 := by rw [hA]; rfl
    have hg26 : (A[26]?).bind (·.dst) = some 31 := by rw [hA]; rfl
    simp [Inst.enc, k1, k2, hg5, hg12, hg19, hg26]
    refine hQ _ _ ?_
    clear hQ hA
    refine WK.ret Try.func50 (by simp (maxDischargeDepth := 120) [Try.results50, Inst.same, k1, k2]) (by simp [Inst.same, k1, k2])
  cases k3 : a.value == b.value
  · rw [k3] at w1
    refine FnP.intro Try.func50 rfl rfl fun G w => ?_
    repeat (refine WK.seq ?_)
    refine WK.reg 100 Try.ntmps50 (by kernel_rfl) ?_
    intro A hA Q hQ
    simp
    refine hQ _ _ ?_
    clear hQ hA
    repeat (refine WK.seq ?_)
    refine WK.reg 200 Try.ntmps50 (by kernel_rfl) ?_
    intro A hA Q hQ
    have hg5 : (A[5]?).bind (·.dst) = some 10 := by rw [hA]; rfl
    have hg12 : (A[12]?).bind (·.dst) = some 17 := by rw [hA]; rfl
    have hg19 : (A[19]?).bind (·.dst) = some 24 := by rw [hA]; rfl
    have hg26 : (A[26]?).bind (·.dst) = some 31 := by rw [hA]; rfl
    simp [Inst.enc, k1, k2, ← w1, hg5, hg12, hg19, hg26]
    refine hQ _ _ ?_
    clear hQ hA
    refine WK.ret Try.func50 (by simp (maxDischargeDepth := 120) [Try.results50, Inst.same, k1, k2, k3]) (by simp [Inst.same, k1, k2, k3])
  rw [k3] at w1
  cases k4 : a.mask == b.mask
  · rw [k4] at w2
    refine FnP.intro Try.func50 rfl rfl fun G w => ?_
    repeat (refine WK.seq ?_)
    refine WK.reg 100 Try.ntmps50 (by kernel_rfl) ?_
    intro A hA Q hQ
    simp
    refine hQ _ _ ?_
    clear hQ hA
    repeat (refine WK.seq ?_)
    refine WK.reg 200 Try.ntmps50 (by kernel_rfl) ?_
    intro A hA Q hQ
    have hg5 : (A[5]?).bind (·.dst) = some 10 := by rw [hA]; rfl
    have hg12 : (A[12]?).bind (·.dst) = some 17 := by rw [hA]; rfl
    have hg19 : (A[19]?).bind (·.dst) = some 24 := by rw [hA]; rfl
    have hg26 : (A[26]?).bind (·.dst) = some 31 := by rw [hA]; rfl
    simp [Inst.enc, k1, k2, ← w1, ← w2, hg5, hg12, hg19, hg26]
    refine hQ _ _ ?_
    clear hQ hA
    refine WK.ret Try.func50 (by simp (maxDischargeDepth := 120) [Try.results50, Inst.same, k1, k2, k3, k4]) (by simp [Inst.same, k1, k2, k3, k4])
  rw [k4] at w2
  refine FnP.intro Try.func50 rfl rfl fun G w => ?_
  repeat (refine WK.seq ?_)
  refine WK.reg 100 Try.ntmps50 (by kernel_rfl) ?_
  intro A hA Q hQ
  simp
  refine hQ _ _ ?_
  clear hQ hA
  repeat (refine WK.seq ?_)
  refine WK.reg 200 Try.ntmps50 (by kernel_rfl) ?_
  intro A hA Q hQ
  have hg5 : (A[5]?).bind (·.dst) = some 10 := by rw [hA]; rfl
  have hg12 : (A[12]?).bind (·.dst) = some 17 := by rw [hA]; rfl
  have hg19 : (A[19]?).bind (·.dst) = some 24 := by rw [hA]; rfl
  have hg26 : (A[26]?).bind (·.dst) = some 31 := by rw [hA]; rfl
  simp [Inst.enc, k1, k2, ← w1, ← w2, hg5, hg12, hg19, hg26]
  refine RunQ.callG rfl rfl (by simp [hg26, actS]) rfl (by rfl) (by simp (maxDischargeDepth := 120) [hg26, actS]) (acsame_c a.acts b.acts hl) (by simp [hg26, actS]) ?_
  refine RunQ.eval ?_
  simp [hg26, actS]
  refine hQ _ _ ?_
  clear hQ hA
  refine WK.ret Try.func50 (by simp (maxDischargeDepth := 120) [Try.results50, Inst.same, k1, k2, k3, k4]) (by simp [Inst.same, k1, k2, k3, k4])
theorem insame_c (l m : List Inst) (hl : l.length ≤ 1000000) (ha : ∀ x, x ∈ l → x.acts.length ≤ 1000000) : FnP Try.prog 26 [instS l, instS m] (.bool (eqBy Inst.same l m)) := by
  refine FnP.intro Try.func26 rfl rfl fun G w => ?_
  repeat (refine WK.seq ?_)
  refine WK.reg 100 Try.ntmps26 (by kernel_rfl) ?_
  intro A hA Q hQ
  simp
  refine hQ _ _ ?_
  clear hQ hA
  repeat (refine WK.seq ?_)
  refine WK.reg 200 Try.ntmps26 (by kernel_rfl) ?_
  intro A hA Q hQ
  simp
  refine RunQ.call rfl rfl rfl rfl (by rfl) (by simp (maxDischargeDepth := 120) [instS]) (eqf_inst 50 [] Inst.same l m rfl hl (fun x hx y _ => isame_c x y (ha x hx))) (by simp [instS]) ?_
  refine RunQ.eval ?_
  simp [instS]
  refine hQ _ _ ?_
  clear hQ hA
  refine WK.ret Try.func26 (by simp (maxDischargeDepth := 120) [Try.results26]) (by simp)
end Go.Proofs.Ytibaiiibjnnlkaa
end
