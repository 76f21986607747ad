/- The facts of the types of the program that the claim is about: how many cells and bytes a value has, which parts, which zero value, and which values are compared cell by cell. -/
import Derived.Test.YtiifjagnhnchoaaGreatProg
import Derived.Test.YtiifjagnhnchoaaGreatDa
import Derived.Test.YtiifjagnhnchoaaGreatRows
set_option linter.all false
set_option linter.unnecessarySimpa false
section
set_option linter.unusedVariables false
namespace Go.Proofs.YtiifjagnhnchoaaGreat
open Go Go.AI Go.Proofs
@[simp] theorem td1 : td Tryz.prog 1 = .func := by kernel_rfl
@[simp] theorem sz1 : sz Tryz.prog 1 = 1 := by kernel_rfl
@[simp] theorem byt1 : byt Tryz.prog 1 = 8 := by kernel_rfl
@[simp] theorem zr1 : zr Tryz.prog 1 = .nilf := by kernel_rfl
@[simp] theorem td2 : td Tryz.prog 2 = .int .i64 := by kernel_rfl
@[simp] theorem sz2 : sz Tryz.prog 2 = 1 := by kernel_rfl
@[simp] theorem byt2 : byt Tryz.prog 2 = 8 := by kernel_rfl
@[simp] theorem zr2 : zr Tryz.prog 2 = .int .i64 0 := by kernel_rfl
@[simp] theorem td3 : td Tryz.prog 3 = .int .i64 := by kernel_rfl
@[simp] theorem sz3 : sz Tryz.prog 3 = 1 := by kernel_rfl
@[simp] theorem byt3 : byt Tryz.prog 3 = 8 := by kernel_rfl
@[simp] theorem zr3 : zr Tryz.prog 3 = .int .i64 0 := by kernel_rfl
@[simp] theorem td4 : td Tryz.prog 4 = .bool := by kernel_rfl
@[simp] theorem sz4 : sz Tryz.prog 4 = 1 := by kernel_rfl
@[simp] theorem byt4 : byt Tryz.prog 4 = 1 := by kernel_rfl
@[simp] theorem zr4 : zr Tryz.prog 4 = .bool false := by kernel_rfl
@[simp] theorem td5 : td Tryz.prog 5 = .int .u8 := by kernel_rfl
@[simp] theorem sz5 : sz Tryz.prog 5 = 1 := by kernel_rfl
@[simp] theorem byt5 : byt Tryz.prog 5 = 1 := by kernel_rfl
@[simp] theorem zr5 : zr Tryz.prog 5 = .int .u8 0 := by kernel_rfl
@[simp] theorem td6 : td Tryz.prog 6 = .int .u8 := by kernel_rfl
@[simp] theorem sz6 : sz Tryz.prog 6 = 1 := by kernel_rfl
@[simp] theorem byt6 : byt Tryz.prog 6 = 1 := by kernel_rfl
@[simp] theorem zr6 : zr Tryz.prog 6 = .int .u8 0 := by kernel_rfl
@[simp] theorem td7 : td Tryz.prog 7 = .struct [(0, 2), (1, 3), (2, 4), (3, 6)] := by kernel_rfl
@[simp] theorem sz7 : sz Tryz.prog 7 = 4 := by kernel_rfl
@[simp] theorem byt7 : byt Tryz.prog 7 = 24 := by kernel_rfl
@[simp] theorem zr7 : zr Tryz.prog 7 = .agg ([.int .i64 0, .int .i64 0, .bool false, .int .u8 0]) := by kernel_rfl
@[simp] theorem fl7 : flatT Tryz.prog 7 = some ([false, false, true, false]) := by kernel_rfl
@[simp] theorem td8 : td Tryz.prog 8 = .struct [(0, 2), (1, 3), (2, 4), (3, 6)] := by kernel_rfl
@[simp] theorem sz8 : sz Tryz.prog 8 = 4 := by kernel_rfl
@[simp] theorem byt8 : byt Tryz.prog 8 = 24 := by kernel_rfl
@[simp] theorem zr8 : zr Tryz.prog 8 = .agg ([.int .i64 0, .int .i64 0, .bool false, .int .u8 0]) := by kernel_rfl
@[simp] theorem fl8 : flatT Tryz.prog 8 = some ([false, false, true, false]) := by kernel_rfl
@[simp] theorem td9 : td Tryz.prog 9 = .string := by kernel_rfl
@[simp] theorem sz9 : sz Tryz.prog 9 = 1 := by kernel_rfl
@[simp] theorem byt9 : byt Tryz.prog 9 = 16 := by kernel_rfl
@[simp] theorem zr9 : zr Tryz.prog 9 = .str ByteArray.empty := by kernel_rfl
@[simp] theorem td10 : td Tryz.prog 10 = .string := by kernel_rfl
@[simp] theorem sz10 : sz Tryz.prog 10 = 1 := by kernel_rfl
@[simp] theorem byt10 : byt Tryz.prog 10 = 16 := by kernel_rfl
@[simp] theorem zr10 : zr Tryz.prog 10 = .str ByteArray.empty := by kernel_rfl
@[simp] theorem td11 : td Tryz.prog 11 = .string := by kernel_rfl
@[simp] theorem sz11 : sz Tryz.prog 11 = 1 := by kernel_rfl
@[simp] theorem byt11 : byt Tryz.prog 11 = 16 := by kernel_rfl
@[simp] theorem zr11 : zr Tryz.prog 11 = .str ByteArray.empty := by kernel_rfl
@[simp] theorem td12 : td Tryz.prog 12 = .int .u64 := by kernel_rfl
@[simp] theorem sz12 : sz Tryz.prog 12 = 1 := by kernel_rfl
@[simp] theorem byt12 : byt Tryz.prog 12 = 8 := by kernel_rfl
@[simp] theorem zr12 : zr Tryz.prog 12 = .int .u64 0 := by kernel_rfl
@[simp] theorem td13 : td Tryz.prog 13 = .struct [(0, 9), (1, 12)] := by kernel_rfl
@[simp] theorem sz13 : sz Tryz.prog 13 = 2 := by kernel_rfl
@[simp] theorem byt13 : byt Tryz.prog 13 = 24 := by kernel_rfl
@[simp] theorem zr13 : zr Tryz.prog 13 = .agg ([.str ByteArray.empty, .int .u64 0]) := by kernel_rfl
@[simp] theorem td14 : td Tryz.prog 14 = .struct [(0, 9), (1, 12)] := by kernel_rfl
@[simp] theorem sz14 : sz Tryz.prog 14 = 2 := by kernel_rfl
@[simp] theorem byt14 : byt Tryz.prog 14 = 24 := by kernel_rfl
@[simp] theorem zr14 : zr Tryz.prog 14 = .agg ([.str ByteArray.empty, .int .u64 0]) := by kernel_rfl
@[simp] theorem td15 : td Tryz.prog 15 = .ptr 159 := by kernel_rfl
@[simp] theorem sz15 : sz Tryz.prog 15 = 1 := by kernel_rfl
@[simp] theorem byt15 : byt Tryz.prog 15 = 8 := by kernel_rfl
@[simp] theorem zr15 : zr Tryz.prog 15 = .nilp := by kernel_rfl
@[simp] theorem td16 : td Tryz.prog 16 = .ptr 162 := by kernel_rfl
@[simp] theorem sz16 : sz Tryz.prog 16 = 1 := by kernel_rfl
@[simp] theorem byt16 : byt Tryz.prog 16 = 8 := by kernel_rfl
@[simp] theorem zr16 : zr Tryz.prog 16 = .nilp := by kernel_rfl
@[simp] theorem td17 : td Tryz.prog 17 = .ptr 172 := by kernel_rfl
@[simp] theorem sz17 : sz Tryz.prog 17 = 1 := by kernel_rfl
@[simp] theorem byt17 : byt Tryz.prog 17 = 8 := by kernel_rfl
@[simp] theorem zr17 : zr Tryz.prog 17 = .nilp := by kernel_rfl
@[simp] theorem td18 : td Tryz.prog 18 = .struct [(0, 17)] := by kernel_rfl
@[simp] theorem sz18 : sz Tryz.prog 18 = 1 := by kernel_rfl
@[simp] theorem byt18 : byt Tryz.prog 18 = 8 := by kernel_rfl
@[simp] theorem zr18 : zr Tryz.prog 18 = .agg ([.nilp]) := by kernel_rfl
@[simp] theorem td19 : td Tryz.prog 19 = .struct [(0, 17)] := by kernel_rfl
@[simp] theorem sz19 : sz Tryz.prog 19 = 1 := by kernel_rfl
@[simp] theorem byt19 : byt Tryz.prog 19 = 8 := by kernel_rfl
@[simp] theorem zr19 : zr Tryz.prog 19 = .agg ([.nilp]) := by kernel_rfl
@[simp] theorem td20 : td Tryz.prog 20 = .iface true := by kernel_rfl
@[simp] theorem sz20 : sz Tryz.prog 20 = 1 := by kernel_rfl
@[simp] theorem byt20 : byt Tryz.prog 20 = 16 := by kernel_rfl
@[simp] theorem zr20 : zr Tryz.prog 20 = .niface := by kernel_rfl
@[simp] theorem td21 : td Tryz.prog 21 = .int .i32 := by kernel_rfl
@[simp] theorem sz21 : sz Tryz.prog 21 = 1 := by kernel_rfl
@[simp] theorem byt21 : byt Tryz.prog 21 = 4 := by kernel_rfl
@[simp] theorem zr21 : zr Tryz.prog 21 = .int .i32 0 := by kernel_rfl
@[simp] theorem td22 : td Tryz.prog 22 = .slice 5 := by kernel_rfl
@[simp] theorem sz22 : sz Tryz.prog 22 = 1 := by kernel_rfl
@[simp] theorem byt22 : byt Tryz.prog 22 = 24 := by kernel_rfl
@[simp] theorem zr22 : zr Tryz.prog 22 = .sl true 0 [] := by kernel_rfl
@[simp] theorem td23 : td Tryz.prog 23 = .func := by kernel_rfl
@[simp] theorem sz23 : sz Tryz.prog 23 = 1 := by kernel_rfl
@[simp] theorem byt23 : byt Tryz.prog 23 = 8 := by kernel_rfl
@[simp] theorem zr23 : zr Tryz.prog 23 = .nilf := by kernel_rfl
@[simp] theorem td24 : td Tryz.prog 24 = .int .u64 := by kernel_rfl
@[simp] theorem sz24 : sz Tryz.prog 24 = 1 := by kernel_rfl
@[simp] theorem byt24 : byt Tryz.prog 24 = 8 := by kernel_rfl
@[simp] theorem zr24 : zr Tryz.prog 24 = .int .u64 0 := by kernel_rfl
@[simp] theorem td25 : td Tryz.prog 25 = .slice 44 := by kernel_rfl
@[simp] theorem sz25 : sz Tryz.prog 25 = 1 := by kernel_rfl
@[simp] theorem byt25 : byt Tryz.prog 25 = 24 := by kernel_rfl
@[simp] theorem zr25 : zr Tryz.prog 25 = .sl true 0 [] := by kernel_rfl
@[simp] theorem td26 : td Tryz.prog 26 = .slice 47 := by kernel_rfl
@[simp] theorem sz26 : sz Tryz.prog 26 = 1 := by kernel_rfl
@[simp] theorem byt26 : byt Tryz.prog 26 = 24 := by kernel_rfl
@[simp] theorem zr26 : zr Tryz.prog 26 = .sl true 0 [] := by kernel_rfl
@[simp] theorem td27 : td Tryz.prog 27 = .struct [(0, 24), (1, 24), (2, 3), (3, 3), (4, 3), (5, 3), (6, 3), (7, 3), (8, 3), (9, 3), (10, 3), (11, 25), (12, 26)] := by kernel_rfl
@[simp] theorem sz27 : sz Tryz.prog 27 = 13 := by kernel_rfl
@[simp] theorem byt27 : byt Tryz.prog 27 = 136 := by kernel_rfl
@[simp] theorem zr27 : zr Tryz.prog 27 = .agg ([.int .u64 0, .int .u64 0, .int .i64 0, .int .i64 0, .int .i64 0, .int .i64 0, .int .i64 0, .int .i64 0, .int .i64 0, .int .i64 0, .int .i64 0, .sl true 0 [], .sl true 0 []]) := by kernel_rfl
@[simp] theorem td28 : td Tryz.prog 28 = .struct [(0, 24), (1, 24), (2, 3), (3, 3), (4, 3), (5, 3), (6, 3), (7, 3), (8, 3), (9, 3), (10, 3), (11, 25), (12, 26)] := by kernel_rfl
@[simp] theorem sz28 : sz Tryz.prog 28 = 13 := by kernel_rfl
@[simp] theorem byt28 : byt Tryz.prog 28 = 136 := by kernel_rfl
@[simp] theorem zr28 : zr Tryz.prog 28 = .agg ([.int .u64 0, .int .u64 0, .int .i64 0, .int .i64 0, .int .i64 0, .int .i64 0, .int .i64 0, .int .i64 0, .int .i64 0, .int .i64 0, .int .i64 0, .sl true 0 [], .sl true 0 []]) := by kernel_rfl
@[simp] theorem td29 : td Tryz.prog 29 = .struct [(0, 4), (1, 3), (2, 3)] := by kernel_rfl
@[simp] theorem sz29 : sz Tryz.prog 29 = 3 := by kernel_rfl
@[simp] theorem byt29 : byt Tryz.prog 29 = 24 := by kernel_rfl
@[simp] theorem zr29 : zr Tryz.prog 29 = .agg ([.bool false, .int .i64 0, .int .i64 0]) := by kernel_rfl
@[simp] theorem fl29 : flatT Tryz.prog 29 = some ([true, false, false]) := by kernel_rfl
@[simp] theorem td30 : td Tryz.prog 30 = .struct [(0, 4), (1, 3), (2, 3)] := by kernel_rfl
@[simp] theorem sz30 : sz Tryz.prog 30 = 3 := by kernel_rfl
@[simp] theorem byt30 : byt Tryz.prog 30 = 24 := by kernel_rfl
@[simp] theorem zr30 : zr Tryz.prog 30 = .agg ([.bool false, .int .i64 0, .int .i64 0]) := by kernel_rfl
@[simp] theorem fl30 : flatT Tryz.prog 30 = some ([true, false, false]) := by kernel_rfl
@[simp] theorem td32 : td Tryz.prog 32 = .func := by kernel_rfl
@[simp] theorem sz32 : sz Tryz.prog 32 = 1 := by kernel_rfl
@[simp] theorem byt32 : byt Tryz.prog 32 = 8 := by kernel_rfl
@[simp] theorem zr32 : zr Tryz.prog 32 = .nilf := by kernel_rfl
@[simp] theorem td33 : td Tryz.prog 33 = .func := by kernel_rfl
@[simp] theorem sz33 : sz Tryz.prog 33 = 1 := by kernel_rfl
@[simp] theorem byt33 : byt Tryz.prog 33 = 8 := by kernel_rfl
@[simp] theorem zr33 : zr Tryz.prog 33 = .nilf := by kernel_rfl
@[simp] theorem td34 : td Tryz.prog 34 = .func := by kernel_rfl
@[simp] theorem sz34 : sz Tryz.prog 34 = 1 := by kernel_rfl
@[simp] theorem byt34 : byt Tryz.prog 34 = 8 := by kernel_rfl
@[simp] theorem zr34 : zr Tryz.prog 34 = .nilf := by kernel_rfl
@[simp] theorem td35 : td Tryz.prog 35 = .func := by kernel_rfl
@[simp] theorem sz35 : sz Tryz.prog 35 = 1 := by kernel_rfl
@[simp] theorem byt35 : byt Tryz.prog 35 = 8 := by kernel_rfl
@[simp] theorem zr35 : zr Tryz.prog 35 = .nilf := by kernel_rfl
@[simp] theorem td36 : td Tryz.prog 36 = .int .i64 := by kernel_rfl
@[simp] theorem sz36 : sz Tryz.prog 36 = 1 := by kernel_rfl
@[simp] theorem byt36 : byt Tryz.prog 36 = 8 := by kernel_rfl
@[simp] theorem zr36 : zr Tryz.prog 36 = .int .i64 0 := by kernel_rfl
@[simp] theorem td38 : td Tryz.prog 38 = .func := by kernel_rfl
@[simp] theorem sz38 : sz Tryz.prog 38 = 1 := by kernel_rfl
@[simp] theorem byt38 : byt Tryz.prog 38 = 8 := by kernel_rfl
@[simp] theorem zr38 : zr Tryz.prog 38 = .nilf := by kernel_rfl
@[simp] theorem td39 : td Tryz.prog 39 = .func := by kernel_rfl
@[simp] theorem sz39 : sz Tryz.prog 39 = 1 := by kernel_rfl
@[simp] theorem byt39 : byt Tryz.prog 39 = 8 := by kernel_rfl
@[simp] theorem zr39 : zr Tryz.prog 39 = .nilf := by kernel_rfl
@[simp] theorem td40 : td Tryz.prog 40 = .func := by kernel_rfl
@[simp] theorem sz40 : sz Tryz.prog 40 = 1 := by kernel_rfl
@[simp] theorem byt40 : byt Tryz.prog 40 = 8 := by kernel_rfl
@[simp] theorem zr40 : zr Tryz.prog 40 = .nilf := by kernel_rfl
@[simp] theorem td41 : td Tryz.prog 41 = .struct [(0, 24), (1, 24)] := by kernel_rfl
@[simp] theorem sz41 : sz Tryz.prog 41 = 2 := by kernel_rfl
@[simp] theorem byt41 : byt Tryz.prog 41 = 16 := by kernel_rfl
@[simp] theorem zr41 : zr Tryz.prog 41 = .agg ([.int .u64 0, .int .u64 0]) := by kernel_rfl
@[simp] theorem fl41 : flatT Tryz.prog 41 = some ([false, false]) := by kernel_rfl
@[simp] theorem td42 : td Tryz.prog 42 = .struct [(0, 24), (1, 24)] := by kernel_rfl
@[simp] theorem sz42 : sz Tryz.prog 42 = 2 := by kernel_rfl
@[simp] theorem byt42 : byt Tryz.prog 42 = 16 := by kernel_rfl
@[simp] theorem zr42 : zr Tryz.prog 42 = .agg ([.int .u64 0, .int .u64 0]) := by kernel_rfl
@[simp] theorem fl42 : flatT Tryz.prog 42 = some ([false, false]) := by kernel_rfl
@[simp] theorem td43 : td Tryz.prog 43 = .struct [(0, 3), (1, 4), (2, 42), (4, 42)] := by kernel_rfl
@[simp] theorem sz43 : sz Tryz.prog 43 = 6 := by kernel_rfl
@[simp] theorem byt43 : byt Tryz.prog 43 = 48 := by kernel_rfl
@[simp] theorem zr43 : zr Tryz.prog 43 = .agg ([.int .i64 0, .bool false, .int .u64 0, .int .u64 0, .int .u64 0, .int .u64 0]) := by kernel_rfl
@[simp] theorem fl43 : flatT Tryz.prog 43 = some ([false, true, false, false, false, false]) := by kernel_rfl
@[simp] theorem td44 : td Tryz.prog 44 = .struct [(0, 3), (1, 4), (2, 42), (4, 42)] := by kernel_rfl
@[simp] theorem sz44 : sz Tryz.prog 44 = 6 := by kernel_rfl
@[simp] theorem byt44 : byt Tryz.prog 44 = 48 := by kernel_rfl
@[simp] theorem zr44 : zr Tryz.prog 44 = .agg ([.int .i64 0, .bool false, .int .u64 0, .int .u64 0, .int .u64 0, .int .u64 0]) := by kernel_rfl
@[simp] theorem fl44 : flatT Tryz.prog 44 = some ([false, true, false, false, false, false]) := by kernel_rfl
@[simp] theorem td45 : td Tryz.prog 45 = .slice 73 := by kernel_rfl
@[simp] theorem sz45 : sz Tryz.prog 45 = 1 := by kernel_rfl
@[simp] theorem byt45 : byt Tryz.prog 45 = 24 := by kernel_rfl
@[simp] theorem zr45 : zr Tryz.prog 45 = .sl true 0 [] := by kernel_rfl
@[simp] theorem td46 : td Tryz.prog 46 = .struct [(0, 3), (1, 3), (2, 42), (4, 42), (6, 45)] := by kernel_rfl
@[simp] theorem sz46 : sz Tryz.prog 46 = 7 := by kernel_rfl
@[simp] theorem byt46 : byt Tryz.prog 46 = 72 := by kernel_rfl
@[simp] theorem zr46 : zr Tryz.prog 46 = .agg ([.int .i64 0, .int .i64 0, .int .u64 0, .int .u64 0, .int .u64 0, .int .u64 0, .sl true 0 []]) := by kernel_rfl
@[simp] theorem td47 : td Tryz.prog 47 = .struct [(0, 3), (1, 3), (2, 42), (4, 42), (6, 45)] := by kernel_rfl
@[simp] theorem sz47 : sz Tryz.prog 47 = 7 := by kernel_rfl
@[simp] theorem byt47 : byt Tryz.prog 47 = 72 := by kernel_rfl
@[simp] theorem zr47 : zr Tryz.prog 47 = .agg ([.int .i64 0, .int .i64 0, .int .u64 0, .int .u64 0, .int .u64 0, .int .u64 0, .sl true 0 []]) := by kernel_rfl
@[simp] theorem td48 : td Tryz.prog 48 = .func := by kernel_rfl
@[simp] theorem sz48 : sz Tryz.prog 48 = 1 := by kernel_rfl
@[simp] theorem byt48 : byt Tryz.prog 48 = 8 := by kernel_rfl
@[simp] theorem zr48 : zr Tryz.prog 48 = .nilf := by kernel_rfl
@[simp] theorem td49 : td Tryz.prog 49 = .ptr 51 := by kernel_rfl
@[simp] theorem sz49 : sz Tryz.prog 49 = 1 := by kernel_rfl
@[simp] theorem byt49 : byt Tryz.prog 49 = 8 := by kernel_rfl
@[simp] theorem zr49 : zr Tryz.prog 49 = .nilp := by kernel_rfl
@[simp] theorem td50 : td Tryz.prog 50 = .struct [(0, 28)] := by kernel_rfl
@[simp] theorem sz50 : sz Tryz.prog 50 = 13 := by kernel_rfl
@[simp] theorem byt50 : byt Tryz.prog 50 = 136 := by kernel_rfl
@[simp] theorem zr50 : zr Tryz.prog 50 = .agg ([.int .u64 0, .int .u64 0, .int .i64 0, .int .i64 0, .int .i64 0, .int .i64 0, .int .i64 0, .int .i64 0, .int .i64 0, .int .i64 0, .int .i64 0, .sl true 0 [], .sl true 0 []]) := by kernel_rfl
@[simp] theorem td51 : td Tryz.prog 51 = .struct [(0, 28)] := by kernel_rfl
@[simp] theorem sz51 : sz Tryz.prog 51 = 13 := by kernel_rfl
@[simp] theorem byt51 : byt Tryz.prog 51 = 136 := by kernel_rfl
@[simp] theorem zr51 : zr Tryz.prog 51 = .agg ([.int .u64 0, .int .u64 0, .int .i64 0, .int .i64 0, .int .i64 0, .int .i64 0, .int .i64 0, .int .i64 0, .int .i64 0, .int .i64 0, .int .i64 0, .sl true 0 [], .sl true 0 []]) := by kernel_rfl
@[simp] theorem td53 : td Tryz.prog 53 = .func := by kernel_rfl
@[simp] theorem sz53 : sz Tryz.prog 53 = 1 := by kernel_rfl
@[simp] theorem byt53 : byt Tryz.prog 53 = 8 := by kernel_rfl
@[simp] theorem zr53 : zr Tryz.prog 53 = .nilf := by kernel_rfl
@[simp] theorem td54 : td Tryz.prog 54 = .array 9 3 := by kernel_rfl
@[simp] theorem sz54 : sz Tryz.prog 54 = 9 := by kernel_rfl
@[simp] theorem byt54 : byt Tryz.prog 54 = 72 := by kernel_rfl
@[simp] theorem zr54 : zr Tryz.prog 54 = .agg ([.int .i64 0, .int .i64 0, .int .i64 0, .int .i64 0, .int .i64 0, .int .i64 0, .int .i64 0, .int .i64 0, .int .i64 0]) := by kernel_rfl
@[simp] theorem fl54 : flatT Tryz.prog 54 = some ([false, false, false, false, false, false, false, false, false]) := by kernel_rfl
@[simp] theorem td55 : td Tryz.prog 55 = .func := by kernel_rfl
@[simp] theorem sz55 : sz Tryz.prog 55 = 1 := by kernel_rfl
@[simp] theorem byt55 : byt Tryz.prog 55 = 8 := by kernel_rfl
@[simp] theorem zr55 : zr Tryz.prog 55 = .nilf := by kernel_rfl
@[simp] theorem td57 : td Tryz.prog 57 = .func := by kernel_rfl
@[simp] theorem sz57 : sz Tryz.prog 57 = 1 := by kernel_rfl
@[simp] theorem byt57 : byt Tryz.prog 57 = 8 := by kernel_rfl
@[simp] theorem zr57 : zr Tryz.prog 57 = .nilf := by kernel_rfl
@[simp] theorem td58 : td Tryz.prog 58 = .func := by kernel_rfl
@[simp] theorem sz58 : sz Tryz.prog 58 = 1 := by kernel_rfl
@[simp] theorem byt58 : byt Tryz.prog 58 = 8 := by kernel_rfl
@[simp] theorem zr58 : zr Tryz.prog 58 = .nilf := by kernel_rfl
@[simp] theorem td60 : td Tryz.prog 60 = .func := by kernel_rfl
@[simp] theorem sz60 : sz Tryz.prog 60 = 1 := by kernel_rfl
@[simp] theorem byt60 : byt Tryz.prog 60 = 8 := by kernel_rfl
@[simp] theorem zr60 : zr Tryz.prog 60 = .nilf := by kernel_rfl
@[simp] theorem td62 : td Tryz.prog 62 = .func := by kernel_rfl
@[simp] theorem sz62 : sz Tryz.prog 62 = 1 := by kernel_rfl
@[simp] theorem byt62 : byt Tryz.prog 62 = 8 := by kernel_rfl
@[simp] theorem zr62 : zr Tryz.prog 62 = .nilf := by kernel_rfl
@[simp] theorem td63 : td Tryz.prog 63 = .func := by kernel_rfl
@[simp] theorem sz63 : sz Tryz.prog 63 = 1 := by kernel_rfl
@[simp] theorem byt63 : byt Tryz.prog 63 = 8 := by kernel_rfl
@[simp] theorem zr63 : zr Tryz.prog 63 = .nilf := by kernel_rfl
@[simp] theorem td64 : td Tryz.prog 64 = .func := by kernel_rfl
@[simp] theorem sz64 : sz Tryz.prog 64 = 1 := by kernel_rfl
@[simp] theorem byt64 : byt Tryz.prog 64 = 8 := by kernel_rfl
@[simp] theorem zr64 : zr Tryz.prog 64 = .nilf := by kernel_rfl
@[simp] theorem td65 : td Tryz.prog 65 = .func := by kernel_rfl
@[simp] theorem sz65 : sz Tryz.prog 65 = 1 := by kernel_rfl
@[simp] theorem byt65 : byt Tryz.prog 65 = 8 := by kernel_rfl
@[simp] theorem zr65 : zr Tryz.prog 65 = .nilf := by kernel_rfl
@[simp] theorem td66 : td Tryz.prog 66 = .func := by kernel_rfl
@[simp] theorem sz66 : sz Tryz.prog 66 = 1 := by kernel_rfl
@[simp] theorem byt66 : byt Tryz.prog 66 = 8 := by kernel_rfl
@[simp] theorem zr66 : zr Tryz.prog 66 = .nilf := by kernel_rfl
@[simp] theorem td67 : td Tryz.prog 67 = .func := by kernel_rfl
@[simp] theorem sz67 : sz Tryz.prog 67 = 1 := by kernel_rfl
@[simp] theorem byt67 : byt Tryz.prog 67 = 8 := by kernel_rfl
@[simp] theorem zr67 : zr Tryz.prog 67 = .nilf := by kernel_rfl
@[simp] theorem td68 : td Tryz.prog 68 = .func := by kernel_rfl
@[simp] theorem sz68 : sz Tryz.prog 68 = 1 := by kernel_rfl
@[simp] theorem byt68 : byt Tryz.prog 68 = 8 := by kernel_rfl
@[simp] theorem zr68 : zr Tryz.prog 68 = .nilf := by kernel_rfl
@[simp] theorem td69 : td Tryz.prog 69 = .func := by kernel_rfl
@[simp] theorem sz69 : sz Tryz.prog 69 = 1 := by kernel_rfl
@[simp] theorem byt69 : byt Tryz.prog 69 = 8 := by kernel_rfl
@[simp] theorem zr69 : zr Tryz.prog 69 = .nilf := by kernel_rfl
@[simp] theorem td70 : td Tryz.prog 70 = .func := by kernel_rfl
@[simp] theorem sz70 : sz Tryz.prog 70 = 1 := by kernel_rfl
@[simp] theorem byt70 : byt Tryz.prog 70 = 8 := by kernel_rfl
@[simp] theorem zr70 : zr Tryz.prog 70 = .nilf := by kernel_rfl
@[simp] theorem td71 : td Tryz.prog 71 = .func := by kernel_rfl
@[simp] theorem sz71 : sz Tryz.prog 71 = 1 := by kernel_rfl
@[simp] theorem byt71 : byt Tryz.prog 71 = 8 := by kernel_rfl
@[simp] theorem zr71 : zr Tryz.prog 71 = .nilf := by kernel_rfl
@[simp] theorem td72 : td Tryz.prog 72 = .struct [(0, 3), (1, 3), (2, 3), (3, 3), (4, 3), (5, 44)] := by kernel_rfl
@[simp] theorem sz72 : sz Tryz.prog 72 = 11 := by kernel_rfl
@[simp] theorem byt72 : byt Tryz.prog 72 = 88 := by kernel_rfl
@[simp] theorem zr72 : zr Tryz.prog 72 = .agg ([.int .i64 0, .int .i64 0, .int .i64 0, .int .i64 0, .int .i64 0, .int .i64 0, .bool false, .int .u64 0, .int .u64 0, .int .u64 0, .int .u64 0]) := by kernel_rfl
@[simp] theorem fl72 : flatT Tryz.prog 72 = some ([false, false, false, false, false, false, true, false, false, false, false]) := by kernel_rfl
@[simp] theorem td73 : td Tryz.prog 73 = .struct [(0, 3), (1, 3), (2, 3), (3, 3), (4, 3), (5, 44)] := by kernel_rfl
@[simp] theorem sz73 : sz Tryz.prog 73 = 11 := by kernel_rfl
@[simp] theorem byt73 : byt Tryz.prog 73 = 88 := by kernel_rfl
@[simp] theorem zr73 : zr Tryz.prog 73 = .agg ([.int .i64 0, .int .i64 0, .int .i64 0, .int .i64 0, .int .i64 0, .int .i64 0, .bool false, .int .u64 0, .int .u64 0, .int .u64 0, .int .u64 0]) := by kernel_rfl
@[simp] theorem fl73 : flatT Tryz.prog 73 = some ([false, false, false, false, false, false, true, false, false, false, false]) := by kernel_rfl
@[simp] theorem td74 : td Tryz.prog 74 = .func := by kernel_rfl
@[simp] theorem sz74 : sz Tryz.prog 74 = 1 := by kernel_rfl
@[simp] theorem byt74 : byt Tryz.prog 74 = 8 := by kernel_rfl
@[simp] theorem zr74 : zr Tryz.prog 74 = .nilf := by kernel_rfl
@[simp] theorem td75 : td Tryz.prog 75 = .func := by kernel_rfl
@[simp] theorem sz75 : sz Tryz.prog 75 = 1 := by kernel_rfl
@[simp] theorem byt75 : byt Tryz.prog 75 = 8 := by kernel_rfl
@[simp] theorem zr75 : zr Tryz.prog 75 = .nilf := by kernel_rfl
@[simp] theorem td76 : td Tryz.prog 76 = .int .u64 := by kernel_rfl
@[simp] theorem sz76 : sz Tryz.prog 76 = 1 := by kernel_rfl
@[simp] theorem byt76 : byt Tryz.prog 76 = 8 := by kernel_rfl
@[simp] theorem zr76 : zr Tryz.prog 76 = .int .u64 0 := by kernel_rfl
@[simp] theorem td77 : td Tryz.prog 77 = .func := by kernel_rfl
@[simp] theorem sz77 : sz Tryz.prog 77 = 1 := by kernel_rfl
@[simp] theorem byt77 : byt Tryz.prog 77 = 8 := by kernel_rfl
@[simp] theorem zr77 : zr Tryz.prog 77 = .nilf := by kernel_rfl
@[simp] theorem td79 : td Tryz.prog 79 = .func := by kernel_rfl
@[simp] theorem sz79 : sz Tryz.prog 79 = 1 := by kernel_rfl
@[simp] theorem byt79 : byt Tryz.prog 79 = 8 := by kernel_rfl
@[simp] theorem zr79 : zr Tryz.prog 79 = .nilf := by kernel_rfl
@[simp] theorem td81 : td Tryz.prog 81 = .func := by kernel_rfl
@[simp] theorem sz81 : sz Tryz.prog 81 = 1 := by kernel_rfl
@[simp] theorem byt81 : byt Tryz.prog 81 = 8 := by kernel_rfl
@[simp] theorem zr81 : zr Tryz.prog 81 = .nilf := by kernel_rfl
@[simp] theorem td82 : td Tryz.prog 82 = .func := by kernel_rfl
@[simp] theorem sz82 : sz Tryz.prog 82 = 1 := by kernel_rfl
@[simp] theorem byt82 : byt Tryz.prog 82 = 8 := by kernel_rfl
@[simp] theorem zr82 : zr Tryz.prog 82 = .nilf := by kernel_rfl
@[simp] theorem td83 : td Tryz.prog 83 = .func := by kernel_rfl
@[simp] theorem sz83 : sz Tryz.prog 83 = 1 := by kernel_rfl
@[simp] theorem byt83 : byt Tryz.prog 83 = 8 := by kernel_rfl
@[simp] theorem zr83 : zr Tryz.prog 83 = .nilf := by kernel_rfl
@[simp] theorem td84 : td Tryz.prog 84 = .func := by kernel_rfl
@[simp] theorem sz84 : sz Tryz.prog 84 = 1 := by kernel_rfl
@[simp] theorem byt84 : byt Tryz.prog 84 = 8 := by kernel_rfl
@[simp] theorem zr84 : zr Tryz.prog 84 = .nilf := by kernel_rfl
@[simp] theorem td85 : td Tryz.prog 85 = .func := by kernel_rfl
@[simp] theorem sz85 : sz Tryz.prog 85 = 1 := by kernel_rfl
@[simp] theorem byt85 : byt Tryz.prog 85 = 8 := by kernel_rfl
@[simp] theorem zr85 : zr Tryz.prog 85 = .nilf := by kernel_rfl
@[simp] theorem td86 : td Tryz.prog 86 = .func := by kernel_rfl
@[simp] theorem sz86 : sz Tryz.prog 86 = 1 := by kernel_rfl
@[simp] theorem byt86 : byt Tryz.prog 86 = 8 := by kernel_rfl
@[simp] theorem zr86 : zr Tryz.prog 86 = .nilf := by kernel_rfl
@[simp] theorem td89 : td Tryz.prog 89 = .func := by kernel_rfl
@[simp] theorem sz89 : sz Tryz.prog 89 = 1 := by kernel_rfl
@[simp] theorem byt89 : byt Tryz.prog 89 = 8 := by kernel_rfl
@[simp] theorem zr89 : zr Tryz.prog 89 = .nilf := by kernel_rfl
@[simp] theorem td91 : td Tryz.prog 91 = .func := by kernel_rfl
@[simp] theorem sz91 : sz Tryz.prog 91 = 1 := by kernel_rfl
@[simp] theorem byt91 : byt Tryz.prog 91 = 8 := by kernel_rfl
@[simp] theorem zr91 : zr Tryz.prog 91 = .nilf := by kernel_rfl
@[simp] theorem td92 : td Tryz.prog 92 = .func := by kernel_rfl
@[simp] theorem sz92 : sz Tryz.prog 92 = 1 := by kernel_rfl
@[simp] theorem byt92 : byt Tryz.prog 92 = 8 := by kernel_rfl
@[simp] theorem zr92 : zr Tryz.prog 92 = .nilf := by kernel_rfl
@[simp] theorem td94 : td Tryz.prog 94 = .func := by kernel_rfl
@[simp] theorem sz94 : sz Tryz.prog 94 = 1 := by kernel_rfl
@[simp] theorem byt94 : byt Tryz.prog 94 = 8 := by kernel_rfl
@[simp] theorem zr94 : zr Tryz.prog 94 = .nilf := by kernel_rfl
@[simp] theorem td95 : td Tryz.prog 95 = .func := by kernel_rfl
@[simp] theorem sz95 : sz Tryz.prog 95 = 1 := by kernel_rfl
@[simp] theorem byt95 : byt Tryz.prog 95 = 8 := by kernel_rfl
@[simp] theorem zr95 : zr Tryz.prog 95 = .nilf := by kernel_rfl
@[simp] theorem td96 : td Tryz.prog 96 = .func := by kernel_rfl
@[simp] theorem sz96 : sz Tryz.prog 96 = 1 := by kernel_rfl
@[simp] theorem byt96 : byt Tryz.prog 96 = 8 := by kernel_rfl
@[simp] theorem zr96 : zr Tryz.prog 96 = .nilf := by kernel_rfl
@[simp] theorem td97 : td Tryz.prog 97 = .func := by kernel_rfl
@[simp] theorem sz97 : sz Tryz.prog 97 = 1 := by kernel_rfl
@[simp] theorem byt97 : byt Tryz.prog 97 = 8 := by kernel_rfl
@[simp] theorem zr97 : zr Tryz.prog 97 = .nilf := by kernel_rfl
@[simp] theorem td98 : td Tryz.prog 98 = .func := by kernel_rfl
@[simp] theorem sz98 : sz Tryz.prog 98 = 1 := by kernel_rfl
@[simp] theorem byt98 : byt Tryz.prog 98 = 8 := by kernel_rfl
@[simp] theorem zr98 : zr Tryz.prog 98 = .nilf := by kernel_rfl
@[simp] theorem td99 : td Tryz.prog 99 = .array 16 5 := by kernel_rfl
@[simp] theorem sz99 : sz Tryz.prog 99 = 16 := by kernel_rfl
@[simp] theorem byt99 : byt Tryz.prog 99 = 16 := by kernel_rfl
@[simp] theorem zr99 : zr Tryz.prog 99 = .agg ([.int .u8 0, .int .u8 0, .int .u8 0, .int .u8 0, .int .u8 0, .int .u8 0, .int .u8 0, .int .u8 0, .int .u8 0, .int .u8 0, .int .u8 0, .int .u8 0, .int .u8 0, .int .u8 0, .int .u8 0, .int .u8 0]) := by kernel_rfl
@[simp] theorem fl99 : flatT Tryz.prog 99 = some ([false, false, false, false, false, false, false, false, false, false, false, false, false, false, false, false]) := by kernel_rfl
@[simp] theorem td100 : td Tryz.prog 100 = .array 4 5 := by kernel_rfl
@[simp] theorem sz100 : sz Tryz.prog 100 = 4 := by kernel_rfl
@[simp] theorem byt100 : byt Tryz.prog 100 = 4 := by kernel_rfl
@[simp] theorem zr100 : zr Tryz.prog 100 = .agg ([.int .u8 0, .int .u8 0, .int .u8 0, .int .u8 0]) := by kernel_rfl
@[simp] theorem fl100 : flatT Tryz.prog 100 = some ([false, false, false, false]) := by kernel_rfl
@[simp] theorem td101 : td Tryz.prog 101 = .func := by kernel_rfl
@[simp] theorem sz101 : sz Tryz.prog 101 = 1 := by kernel_rfl
@[simp] theorem byt101 : byt Tryz.prog 101 = 8 := by kernel_rfl
@[simp] theorem zr101 : zr Tryz.prog 101 = .nilf := by kernel_rfl
@[simp] theorem td102 : td Tryz.prog 102 = .func := by kernel_rfl
@[simp] theorem sz102 : sz Tryz.prog 102 = 1 := by kernel_rfl
@[simp] theorem byt102 : byt Tryz.prog 102 = 8 := by kernel_rfl
@[simp] theorem zr102 : zr Tryz.prog 102 = .nilf := by kernel_rfl
@[simp] theorem td103 : td Tryz.prog 103 = .func := by kernel_rfl
@[simp] theorem sz103 : sz Tryz.prog 103 = 1 := by kernel_rfl
@[simp] theorem byt103 : byt Tryz.prog 103 = 8 := by kernel_rfl
@[simp] theorem zr103 : zr Tryz.prog 103 = .nilf := by kernel_rfl
@[simp] theorem td104 : td Tryz.prog 104 = .func := by kernel_rfl
@[simp] theorem sz104 : sz Tryz.prog 104 = 1 := by kernel_rfl
@[simp] theorem byt104 : byt Tryz.prog 104 = 8 := by kernel_rfl
@[simp] theorem zr104 : zr Tryz.prog 104 = .nilf := by kernel_rfl
@[simp] theorem td105 : td Tryz.prog 105 = .slice 109 := by kernel_rfl
@[simp] theorem sz105 : sz Tryz.prog 105 = 1 := by kernel_rfl
@[simp] theorem byt105 : byt Tryz.prog 105 = 24 := by kernel_rfl
@[simp] theorem zr105 : zr Tryz.prog 105 = .sl true 0 [] := by kernel_rfl
@[simp] theorem td106 : td Tryz.prog 106 = .func := by kernel_rfl
@[simp] theorem sz106 : sz Tryz.prog 106 = 1 := by kernel_rfl
@[simp] theorem byt106 : byt Tryz.prog 106 = 8 := by kernel_rfl
@[simp] theorem zr106 : zr Tryz.prog 106 = .nilf := by kernel_rfl
@[simp] theorem td107 : td Tryz.prog 107 = .slice 42 := by kernel_rfl
@[simp] theorem sz107 : sz Tryz.prog 107 = 1 := by kernel_rfl
@[simp] theorem byt107 : byt Tryz.prog 107 = 24 := by kernel_rfl
@[simp] theorem zr107 : zr Tryz.prog 107 = .sl true 0 [] := by kernel_rfl
@[simp] theorem td108 : td Tryz.prog 108 = .struct [(0, 3), (1, 107)] := by kernel_rfl
@[simp] theorem sz108 : sz Tryz.prog 108 = 2 := by kernel_rfl
@[simp] theorem byt108 : byt Tryz.prog 108 = 32 := by kernel_rfl
@[simp] theorem zr108 : zr Tryz.prog 108 = .agg ([.int .i64 0, .sl true 0 []]) := by kernel_rfl
@[simp] theorem td109 : td Tryz.prog 109 = .struct [(0, 3), (1, 107)] := by kernel_rfl
@[simp] theorem sz109 : sz Tryz.prog 109 = 2 := by kernel_rfl
@[simp] theorem byt109 : byt Tryz.prog 109 = 32 := by kernel_rfl
@[simp] theorem zr109 : zr Tryz.prog 109 = .agg ([.int .i64 0, .sl true 0 []]) := by kernel_rfl
@[simp] theorem td110 : td Tryz.prog 110 = .func := by kernel_rfl
@[simp] theorem sz110 : sz Tryz.prog 110 = 1 := by kernel_rfl
@[simp] theorem byt110 : byt Tryz.prog 110 = 8 := by kernel_rfl
@[simp] theorem zr110 : zr Tryz.prog 110 = .nilf := by kernel_rfl
@[simp] theorem td111 : td Tryz.prog 111 = .func := by kernel_rfl
@[simp] theorem sz111 : sz Tryz.prog 111 = 1 := by kernel_rfl
@[simp] theorem byt111 : byt Tryz.prog 111 = 8 := by kernel_rfl
@[simp] theorem zr111 : zr Tryz.prog 111 = .nilf := by kernel_rfl
@[simp] theorem td112 : td Tryz.prog 112 = .func := by kernel_rfl
@[simp] theorem sz112 : sz Tryz.prog 112 = 1 := by kernel_rfl
@[simp] theorem byt112 : byt Tryz.prog 112 = 8 := by kernel_rfl
@[simp] theorem zr112 : zr Tryz.prog 112 = .nilf := by kernel_rfl
@[simp] theorem td113 : td Tryz.prog 113 = .int .i64 := by kernel_rfl
@[simp] theorem sz113 : sz Tryz.prog 113 = 1 := by kernel_rfl
@[simp] theorem byt113 : byt Tryz.prog 113 = 8 := by kernel_rfl
@[simp] theorem zr113 : zr Tryz.prog 113 = .int .i64 0 := by kernel_rfl
@[simp] theorem td115 : td Tryz.prog 115 = .func := by kernel_rfl
@[simp] theorem sz115 : sz Tryz.prog 115 = 1 := by kernel_rfl
@[simp] theorem byt115 : byt Tryz.prog 115 = 8 := by kernel_rfl
@[simp] theorem zr115 : zr Tryz.prog 115 = .nilf := by kernel_rfl
@[simp] theorem td116 : td Tryz.prog 116 = .func := by kernel_rfl
@[simp] theorem sz116 : sz Tryz.prog 116 = 1 := by kernel_rfl
@[simp] theorem byt116 : byt Tryz.prog 116 = 8 := by kernel_rfl
@[simp] theorem zr116 : zr Tryz.prog 116 = .nilf := by kernel_rfl
@[simp] theorem td117 : td Tryz.prog 117 = .func := by kernel_rfl
@[simp] theorem sz117 : sz Tryz.prog 117 = 1 := by kernel_rfl
@[simp] theorem byt117 : byt Tryz.prog 117 = 8 := by kernel_rfl
@[simp] theorem zr117 : zr Tryz.prog 117 = .nilf := by kernel_rfl
@[simp] theorem td118 : td Tryz.prog 118 = .func := by kernel_rfl
@[simp] theorem sz118 : sz Tryz.prog 118 = 1 := by kernel_rfl
@[simp] theorem byt118 : byt Tryz.prog 118 = 8 := by kernel_rfl
@[simp] theorem zr118 : zr Tryz.prog 118 = .nilf := by kernel_rfl
@[simp] theorem td119 : td Tryz.prog 119 = .func := by kernel_rfl
@[simp] theorem sz119 : sz Tryz.prog 119 = 1 := by kernel_rfl
@[simp] theorem byt119 : byt Tryz.prog 119 = 8 := by kernel_rfl
@[simp] theorem zr119 : zr Tryz.prog 119 = .nilf := by kernel_rfl
@[simp] theorem td121 : td Tryz.prog 121 = .func := by kernel_rfl
@[simp] theorem sz121 : sz Tryz.prog 121 = 1 := by kernel_rfl
@[simp] theorem byt121 : byt Tryz.prog 121 = 8 := by kernel_rfl
@[simp] theorem zr121 : zr Tryz.prog 121 = .nilf := by kernel_rfl
@[simp] theorem td123 : td Tryz.prog 123 = .func := by kernel_rfl
@[simp] theorem sz123 : sz Tryz.prog 123 = 1 := by kernel_rfl
@[simp] theorem byt123 : byt Tryz.prog 123 = 8 := by kernel_rfl
@[simp] theorem zr123 : zr Tryz.prog 123 = .nilf := by kernel_rfl
@[simp] theorem td124 : td Tryz.prog 124 = .func := by kernel_rfl
@[simp] theorem sz124 : sz Tryz.prog 124 = 1 := by kernel_rfl
@[simp] theorem byt124 : byt Tryz.prog 124 = 8 := by kernel_rfl
@[simp] theorem zr124 : zr Tryz.prog 124 = .nilf := by kernel_rfl
@[simp] theorem td125 : td Tryz.prog 125 = .func := by kernel_rfl
@[simp] theorem sz125 : sz Tryz.prog 125 = 1 := by kernel_rfl
@[simp] theorem byt125 : byt Tryz.prog 125 = 8 := by kernel_rfl
@[simp] theorem zr125 : zr Tryz.prog 125 = .nilf := by kernel_rfl
@[simp] theorem td126 : td Tryz.prog 126 = .func := by kernel_rfl
@[simp] theorem sz126 : sz Tryz.prog 126 = 1 := by kernel_rfl
@[simp] theorem byt126 : byt Tryz.prog 126 = 8 := by kernel_rfl
@[simp] theorem zr126 : zr Tryz.prog 126 = .nilf := by kernel_rfl
@[simp] theorem td127 : td Tryz.prog 127 = .func := by kernel_rfl
@[simp] theorem sz127 : sz Tryz.prog 127 = 1 := by kernel_rfl
@[simp] theorem byt127 : byt Tryz.prog 127 = 8 := by kernel_rfl
@[simp] theorem zr127 : zr Tryz.prog 127 = .nilf := by kernel_rfl
@[simp] theorem td128 : td Tryz.prog 128 = .func := by kernel_rfl
@[simp] theorem sz128 : sz Tryz.prog 128 = 1 := by kernel_rfl
@[simp] theorem byt128 : byt Tryz.prog 128 = 8 := by kernel_rfl
@[simp] theorem zr128 : zr Tryz.prog 128 = .nilf := by kernel_rfl
@[simp] theorem td129 : td Tryz.prog 129 = .func := by kernel_rfl
@[simp] theorem sz129 : sz Tryz.prog 129 = 1 := by kernel_rfl
@[simp] theorem byt129 : byt Tryz.prog 129 = 8 := by kernel_rfl
@[simp] theorem zr129 : zr Tryz.prog 129 = .nilf := by kernel_rfl
@[simp] theorem td130 : td Tryz.prog 130 = .func := by kernel_rfl
@[simp] theorem sz130 : sz Tryz.prog 130 = 1 := by kernel_rfl
@[simp] theorem byt130 : byt Tryz.prog 130 = 8 := by kernel_rfl
@[simp] theorem zr130 : zr Tryz.prog 130 = .nilf := by kernel_rfl
@[simp] theorem td131 : td Tryz.prog 131 = .func := by kernel_rfl
@[simp] theorem sz131 : sz Tryz.prog 131 = 1 := by kernel_rfl
@[simp] theorem byt131 : byt Tryz.prog 131 = 8 := by kernel_rfl
@[simp] theorem zr131 : zr Tryz.prog 131 = .nilf := by kernel_rfl
@[simp] theorem td132 : td Tryz.prog 132 = .func := by kernel_rfl
@[simp] theorem sz132 : sz Tryz.prog 132 = 1 := by kernel_rfl
@[simp] theorem byt132 : byt Tryz.prog 132 = 8 := by kernel_rfl
@[simp] theorem zr132 : zr Tryz.prog 132 = .nilf := by kernel_rfl
@[simp] theorem td133 : td Tryz.prog 133 = .struct [(0, 9), (1, 3), (2, 3), (3, 4)] := by kernel_rfl
@[simp] theorem sz133 : sz Tryz.prog 133 = 4 := by kernel_rfl
@[simp] theorem byt133 : byt Tryz.prog 133 = 40 := by kernel_rfl
@[simp] theorem zr133 : zr Tryz.prog 133 = .agg ([.str ByteArray.empty, .int .i64 0, .int .i64 0, .bool false]) := by kernel_rfl
@[simp] theorem td134 : td Tryz.prog 134 = .struct [(0, 9), (1, 3), (2, 3), (3, 4)] := by kernel_rfl
@[simp] theorem sz134 : sz Tryz.prog 134 = 4 := by kernel_rfl
@[simp] theorem byt134 : byt Tryz.prog 134 = 40 := by kernel_rfl
@[simp] theorem zr134 : zr Tryz.prog 134 = .agg ([.str ByteArray.empty, .int .i64 0, .int .i64 0, .bool false]) := by kernel_rfl
@[simp] theorem td135 : td Tryz.prog 135 = .func := by kernel_rfl
@[simp] theorem sz135 : sz Tryz.prog 135 = 1 := by kernel_rfl
@[simp] theorem byt135 : byt Tryz.prog 135 = 8 := by kernel_rfl
@[simp] theorem zr135 : zr Tryz.prog 135 = .nilf := by kernel_rfl
@[simp] theorem td136 : td Tryz.prog 136 = .func := by kernel_rfl
@[simp] theorem sz136 : sz Tryz.prog 136 = 1 := by kernel_rfl
@[simp] theorem byt136 : byt Tryz.prog 136 = 8 := by kernel_rfl
@[simp] theorem zr136 : zr Tryz.prog 136 = .nilf := by kernel_rfl
@[simp] theorem td138 : td Tryz.prog 138 = .func := by kernel_rfl
@[simp] theorem sz138 : sz Tryz.prog 138 = 1 := by kernel_rfl
@[simp] theorem byt138 : byt Tryz.prog 138 = 8 := by kernel_rfl
@[simp] theorem zr138 : zr Tryz.prog 138 = .nilf := by kernel_rfl
@[simp] theorem td140 : td Tryz.prog 140 = .func := by kernel_rfl
@[simp] theorem sz140 : sz Tryz.prog 140 = 1 := by kernel_rfl
@[simp] theorem byt140 : byt Tryz.prog 140 = 8 := by kernel_rfl
@[simp] theorem zr140 : zr Tryz.prog 140 = .nilf := by kernel_rfl
@[simp] theorem td141 : td Tryz.prog 141 = .func := by kernel_rfl
@[simp] theorem sz141 : sz Tryz.prog 141 = 1 := by kernel_rfl
@[simp] theorem byt141 : byt Tryz.prog 141 = 8 := by kernel_rfl
@[simp] theorem zr141 : zr Tryz.prog 141 = .nilf := by kernel_rfl
@[simp] theorem td142 : td Tryz.prog 142 = .func := by kernel_rfl
@[simp] theorem sz142 : sz Tryz.prog 142 = 1 := by kernel_rfl
@[simp] theorem byt142 : byt Tryz.prog 142 = 8 := by kernel_rfl
@[simp] theorem zr142 : zr Tryz.prog 142 = .nilf := by kernel_rfl
@[simp] theorem td143 : td Tryz.prog 143 = .func := by kernel_rfl
@[simp] theorem sz143 : sz Tryz.prog 143 = 1 := by kernel_rfl
@[simp] theorem byt143 : byt Tryz.prog 143 = 8 := by kernel_rfl
@[simp] theorem zr143 : zr Tryz.prog 143 = .nilf := by kernel_rfl
@[simp] theorem td144 : td Tryz.prog 144 = .func := by kernel_rfl
@[simp] theorem sz144 : sz Tryz.prog 144 = 1 := by kernel_rfl
@[simp] theorem byt144 : byt Tryz.prog 144 = 8 := by kernel_rfl
@[simp] theorem zr144 : zr Tryz.prog 144 = .nilf := by kernel_rfl
@[simp] theorem td145 : td Tryz.prog 145 = .slice 24 := by kernel_rfl
@[simp] theorem sz145 : sz Tryz.prog 145 = 1 := by kernel_rfl
@[simp] theorem byt145 : byt Tryz.prog 145 = 24 := by kernel_rfl
@[simp] theorem zr145 : zr Tryz.prog 145 = .sl true 0 [] := by kernel_rfl
@[simp] theorem td146 : td Tryz.prog 146 = .func := by kernel_rfl
@[simp] theorem sz146 : sz Tryz.prog 146 = 1 := by kernel_rfl
@[simp] theorem byt146 : byt Tryz.prog 146 = 8 := by kernel_rfl
@[simp] theorem zr146 : zr Tryz.prog 146 = .nilf := by kernel_rfl
@[simp] theorem td147 : td Tryz.prog 147 = .func := by kernel_rfl
@[simp] theorem sz147 : sz Tryz.prog 147 = 1 := by kernel_rfl
@[simp] theorem byt147 : byt Tryz.prog 147 = 8 := by kernel_rfl
@[simp] theorem zr147 : zr Tryz.prog 147 = .nilf := by kernel_rfl
@[simp] theorem td148 : td Tryz.prog 148 = .array 24 134 := by kernel_rfl
@[simp] theorem sz148 : sz Tryz.prog 148 = 96 := by kernel_rfl
@[simp] theorem byt148 : byt Tryz.prog 148 = 960 := by kernel_rfl
@[simp] theorem zr148 : zr Tryz.prog 148 = .agg ([.str ByteArray.empty, .int .i64 0, .int .i64 0, .bool false, .str ByteArray.empty, .int .i64 0, .int .i64 0, .bool false, .str ByteArray.empty, .int .i64 0, .int .i64 0, .bool false, .str ByteArray.empty, .int .i64 0, .int .i64 0, .bool false, .str ByteArray.empty, .int .i64 0, .int .i64 0, .bool false, .str ByteArray.empty, .int .i64 0, .int .i64 0, .bool false, .str ByteArray.empty, .int .i64 0, .int .i64 0, .bool false, .str ByteArray.empty, .int .i64 0, .int .i64 0, .bool false, .str ByteArray.empty, .int .i64 0, .int .i64 0, .bool false, .str ByteArray.empty, .int .i64 0, .int .i64 0, .bool false, .str ByteArray.empty, .int .i64 0, .int .i64 0, .bool false, .str ByteArray.empty, .int .i64 0, .int .i64 0, .bool false, .str ByteArray.empty, .int .i64 0, .int .i64 0, .bool false, .str ByteArray.empty, .int .i64 0, .int .i64 0, .bool false, .str ByteArray.empty, .int .i64 0, .int .i64 0, .bool false, .str ByteArray.empty, .int .i64 0, .int .i64 0, .bool false, .str ByteArray.empty, .int .i64 0, .int .i64 0, .bool false, .str ByteArray.empty, .int .i64 0, .int .i64 0, .bool false, .str ByteArray.empty, .int .i64 0, .int .i64 0, .bool false, .str ByteArray.empty, .int .i64 0, .int .i64 0, .bool false, .str ByteArray.empty, .int .i64 0, .int .i64 0, .bool false, .str ByteArray.empty, .int .i64 0, .int .i64 0, .bool false, .str ByteArray.empty, .int .i64 0, .int .i64 0, .bool false, .str ByteArray.empty, .int .i64 0, .int .i64 0, .bool false]) := by kernel_rfl
@[simp] theorem td149 : td Tryz.prog 149 = .func := by kernel_rfl
@[simp] theorem sz149 : sz Tryz.prog 149 = 1 := by kernel_rfl
@[simp] theorem byt149 : byt Tryz.prog 149 = 8 := by kernel_rfl
@[simp] theorem zr149 : zr Tryz.prog 149 = .nilf := by kernel_rfl
@[simp] theorem td150 : td Tryz.prog 150 = .func := by kernel_rfl
@[simp] theorem sz150 : sz Tryz.prog 150 = 1 := by kernel_rfl
@[simp] theorem byt150 : byt Tryz.prog 150 = 8 := by kernel_rfl
@[simp] theorem zr150 : zr Tryz.prog 150 = .nilf := by kernel_rfl
@[simp] theorem td151 : td Tryz.prog 151 = .func := by kernel_rfl
@[simp] theorem sz151 : sz Tryz.prog 151 = 1 := by kernel_rfl
@[simp] theorem byt151 : byt Tryz.prog 151 = 8 := by kernel_rfl
@[simp] theorem zr151 : zr Tryz.prog 151 = .nilf := by kernel_rfl
@[simp] theorem td153 : td Tryz.prog 153 = .func := by kernel_rfl
@[simp] theorem sz153 : sz Tryz.prog 153 = 1 := by kernel_rfl
@[simp] theorem byt153 : byt Tryz.prog 153 = 8 := by kernel_rfl
@[simp] theorem zr153 : zr Tryz.prog 153 = .nilf := by kernel_rfl
@[simp] theorem td154 : td Tryz.prog 154 = .func := by kernel_rfl
@[simp] theorem sz154 : sz Tryz.prog 154 = 1 := by kernel_rfl
@[simp] theorem byt154 : byt Tryz.prog 154 = 8 := by kernel_rfl
@[simp] theorem zr154 : zr Tryz.prog 154 = .nilf := by kernel_rfl
@[simp] theorem td155 : td Tryz.prog 155 = .func := by kernel_rfl
@[simp] theorem sz155 : sz Tryz.prog 155 = 1 := by kernel_rfl
@[simp] theorem byt155 : byt Tryz.prog 155 = 8 := by kernel_rfl
@[simp] theorem zr155 : zr Tryz.prog 155 = .nilf := by kernel_rfl
@[simp] theorem td156 : td Tryz.prog 156 = .func := by kernel_rfl
@[simp] theorem sz156 : sz Tryz.prog 156 = 1 := by kernel_rfl
@[simp] theorem byt156 : byt Tryz.prog 156 = 8 := by kernel_rfl
@[simp] theorem zr156 : zr Tryz.prog 156 = .nilf := by kernel_rfl
@[simp] theorem td157 : td Tryz.prog 157 = .func := by kernel_rfl
@[simp] theorem sz157 : sz Tryz.prog 157 = 1 := by kernel_rfl
@[simp] theorem byt157 : byt Tryz.prog 157 = 8 := by kernel_rfl
@[simp] theorem zr157 : zr Tryz.prog 157 = .nilf := by kernel_rfl
@[simp] theorem td158 : td Tryz.prog 158 = .struct [(0, 17), (1, 17), (2, 17), (3, 9)] := by kernel_rfl
@[simp] theorem sz158 : sz Tryz.prog 158 = 4 := by kernel_rfl
@[simp] theorem byt158 : byt Tryz.prog 158 = 40 := by kernel_rfl
@[simp] theorem zr158 : zr Tryz.prog 158 = .agg ([.nilp, .nilp, .nilp, .str ByteArray.empty]) := by kernel_rfl
@[simp] theorem td159 : td Tryz.prog 159 = .struct [(0, 17), (1, 17), (2, 17), (3, 9)] := by kernel_rfl
@[simp] theorem sz159 : sz Tryz.prog 159 = 4 := by kernel_rfl
@[simp] theorem byt159 : byt Tryz.prog 159 = 40 := by kernel_rfl
@[simp] theorem zr159 : zr Tryz.prog 159 = .agg ([.nilp, .nilp, .nilp, .str ByteArray.empty]) := by kernel_rfl
@[simp] theorem td160 : td Tryz.prog 160 = .array 0 16 := by kernel_rfl
@[simp] theorem sz160 : sz Tryz.prog 160 = 0 := by kernel_rfl
@[simp] theorem byt160 : byt Tryz.prog 160 = 0 := by kernel_rfl
@[simp] theorem zr160 : zr Tryz.prog 160 = .agg ([]) := by kernel_rfl
@[simp] theorem td161 : td Tryz.prog 161 = .struct [(0, 160)] := by kernel_rfl
@[simp] theorem sz161 : sz Tryz.prog 161 = 0 := by kernel_rfl
@[simp] theorem byt161 : byt Tryz.prog 161 = 0 := by kernel_rfl
@[simp] theorem zr161 : zr Tryz.prog 161 = .agg ([]) := by kernel_rfl
@[simp] theorem td162 : td Tryz.prog 162 = .struct [(0, 160)] := by kernel_rfl
@[simp] theorem sz162 : sz Tryz.prog 162 = 0 := by kernel_rfl
@[simp] theorem byt162 : byt Tryz.prog 162 = 0 := by kernel_rfl
@[simp] theorem zr162 : zr Tryz.prog 162 = .agg ([]) := by kernel_rfl
@[simp] theorem td163 : td Tryz.prog 163 = .func := by kernel_rfl
@[simp] theorem sz163 : sz Tryz.prog 163 = 1 := by kernel_rfl
@[simp] theorem byt163 : byt Tryz.prog 163 = 8 := by kernel_rfl
@[simp] theorem zr163 : zr Tryz.prog 163 = .nilf := by kernel_rfl
@[simp] theorem td164 : td Tryz.prog 164 = .int .u32 := by kernel_rfl
@[simp] theorem sz164 : sz Tryz.prog 164 = 1 := by kernel_rfl
@[simp] theorem byt164 : byt Tryz.prog 164 = 4 := by kernel_rfl
@[simp] theorem zr164 : zr Tryz.prog 164 = .int .u32 0 := by kernel_rfl
@[simp] theorem td165 : td Tryz.prog 165 = .int .u8 := by kernel_rfl
@[simp] theorem sz165 : sz Tryz.prog 165 = 1 := by kernel_rfl
@[simp] theorem byt165 : byt Tryz.prog 165 = 1 := by kernel_rfl
@[simp] theorem zr165 : zr Tryz.prog 165 = .int .u8 0 := by kernel_rfl
@[simp] theorem td166 : td Tryz.prog 166 = .int .u8 := by kernel_rfl
@[simp] theorem sz166 : sz Tryz.prog 166 = 1 := by kernel_rfl
@[simp] theorem byt166 : byt Tryz.prog 166 = 1 := by kernel_rfl
@[simp] theorem zr166 : zr Tryz.prog 166 = .int .u8 0 := by kernel_rfl
@[simp] theorem td167 : td Tryz.prog 167 = .func := by kernel_rfl
@[simp] theorem sz167 : sz Tryz.prog 167 = 1 := by kernel_rfl
@[simp] theorem byt167 : byt Tryz.prog 167 = 8 := by kernel_rfl
@[simp] theorem zr167 : zr Tryz.prog 167 = .nilf := by kernel_rfl
@[simp] theorem td168 : td Tryz.prog 168 = .ptr 5 := by kernel_rfl
@[simp] theorem sz168 : sz Tryz.prog 168 = 1 := by kernel_rfl
@[simp] theorem byt168 : byt Tryz.prog 168 = 8 := by kernel_rfl
@[simp] theorem zr168 : zr Tryz.prog 168 = .nilp := by kernel_rfl
@[simp] theorem td169 : td Tryz.prog 169 = .int .i32 := by kernel_rfl
@[simp] theorem sz169 : sz Tryz.prog 169 = 1 := by kernel_rfl
@[simp] theorem byt169 : byt Tryz.prog 169 = 4 := by kernel_rfl
@[simp] theorem zr169 : zr Tryz.prog 169 = .int .i32 0 := by kernel_rfl
@[simp] theorem td170 : td Tryz.prog 170 = .int .i32 := by kernel_rfl
@[simp] theorem sz170 : sz Tryz.prog 170 = 1 := by kernel_rfl
@[simp] theorem byt170 : byt Tryz.prog 170 = 4 := by kernel_rfl
@[simp] theorem zr170 : zr Tryz.prog 170 = .int .i32 0 := by kernel_rfl
@[simp] theorem td171 : td Tryz.prog 171 = .struct [(0, 12), (1, 12), (2, 164), (3, 165), (4, 5), (5, 5), (6, 166), (7, 167), (8, 168), (9, 169), (10, 170)] := by kernel_rfl
@[simp] theorem sz171 : sz Tryz.prog 171 = 11 := by kernel_rfl
@[simp] theorem byt171 : byt Tryz.prog 171 = 48 := by kernel_rfl
@[simp] theorem zr171 : zr Tryz.prog 171 = .agg ([.int .u64 0, .int .u64 0, .int .u32 0, .int .u8 0, .int .u8 0, .int .u8 0, .int .u8 0, .nilf, .nilp, .int .i32 0, .int .i32 0]) := by kernel_rfl
@[simp] theorem td172 : td Tryz.prog 172 = .struct [(0, 12), (1, 12), (2, 164), (3, 165), (4, 5), (5, 5), (6, 166), (7, 167), (8, 168), (9, 169), (10, 170)] := by kernel_rfl
@[simp] theorem sz172 : sz Tryz.prog 172 = 11 := by kernel_rfl
@[simp] theorem byt172 : byt Tryz.prog 172 = 48 := by kernel_rfl
@[simp] theorem zr172 : zr Tryz.prog 172 = .agg ([.int .u64 0, .int .u64 0, .int .u32 0, .int .u8 0, .int .u8 0, .int .u8 0, .int .u8 0, .nilf, .nilp, .int .i32 0, .int .i32 0]) := by kernel_rfl
end Go.Proofs.YtiifjagnhnchoaaGreat
end

section
set_option linter.unusedVariables false
set_option linter.unusedSimpArgs false
set_option maxRecDepth 4000
namespace Go.Proofs.YtiifjagnhnchoaaGreat
open Go Go.AI Go.Proofs

theorem cellsOf_sz (t : TypeId) : Tryz.prog.cellsOf t = sz Tryz.prog t := rfl
section
variable {H : Type} {enc : TypeId × Value → H} {w : World} {sp : Nat → Bool} {held : Bool}
theorem rdWide : Rd enc Tryz.prog w sp held 42 Wide.enc := by
  intro fuel cs x h
  obtain ⟨hl, fuel', hf⟩ := trod_struct Tryz.underlying42 h
  simp only [cellsOf_sz, sz42] at hl
  simp only [List.mem_cons, List.not_mem_nil, or_false, forall_eq_or_imp, forall_eq, cellsOf_sz, sz24] at hf
  match cs, hl, hf with
  | [c0, c1], _, ⟨⟨y0, h0⟩, ⟨y1, h1⟩⟩ =>
    obtain ⟨b0, e0⟩ := rd_u64 Tryz.underlying24 h0
    obtain ⟨b1, e1⟩ := rd_u64 Tryz.underlying24 h1
    simp at e0 e1
    subst e0 e1
    exact ⟨⟨b0, b1⟩, by simp [Wide.enc, RelL, Rel], by simp [Ones, Value.oneCell']⟩
theorem rdOxm : Rd enc Tryz.prog w sp held 44 Oxm.enc := by
  intro fuel cs x h
  obtain ⟨hl, fuel', hf⟩ := trod_struct Tryz.underlying44 h
  simp only [cellsOf_sz, sz44] at hl
  simp only [List.mem_cons, List.not_mem_nil, or_false, forall_eq_or_imp, forall_eq, cellsOf_sz, sz42, sz3, sz4] at hf
  match cs, hl, hf with
  | [c0, c1, c2, c3, c4, c5], _, ⟨⟨y0, h0⟩, ⟨y1, h1⟩, ⟨y2, h2⟩, ⟨y3, h3⟩⟩ =>
    obtain ⟨n, e0⟩ := rd_int Tryz.underlying3 h0
    obtain ⟨b, e1⟩ := trod_bool Tryz.underlying4 h1
    obtain ⟨v, r2, o2⟩ := rdWide fuel' _ y2 h2
    obtain ⟨m, r3, o3⟩ := rdWide fuel' _ y3 h3
    simp at e0 e1
    subst e0 e1
    exact ⟨⟨n, b, v, m⟩, RelL.cons (by simp [Rel]) (RelL.cons (by simp [Rel]) (r2.append r3)), (Ones.append (vs := [_, _]) (by simp [Ones, Value.oneCell']) (o2.append o3))⟩
theorem rdAction : Rd enc Tryz.prog w sp held 73 Action.enc := by
  intro fuel cs x h
  obtain ⟨hl, fuel', hf⟩ := trod_struct Tryz.underlying73 h
  simp only [cellsOf_sz, sz73] at hl
  simp only [List.mem_cons, List.not_mem_nil, or_false, forall_eq_or_imp, forall_eq, cellsOf_sz, sz44, sz3] at hf
  match cs, hl, hf with
  | [c0, c1, c2, c3, c4, c5, c6, c7, c8, c9, c10], _, ⟨⟨y0, h0⟩, ⟨y1, h1⟩, ⟨y2, h2⟩, ⟨y3, h3⟩, ⟨y4, h4⟩, ⟨y5, h5⟩⟩ =>
    obtain ⟨n0, e0⟩ := rd_int Tryz.underlying3 h0
    obtain ⟨n1, e1⟩ := rd_int Tryz.underlying3 h1
    obtain ⟨n2, e2⟩ := rd_int Tryz.underlying3 h2
    obtain ⟨n3, e3⟩ := rd_int Tryz.underlying3 h3
    obtain ⟨n4, e4⟩ := rd_int Tryz.underlying3 h4
    obtain ⟨o, r5, o5⟩ := rdOxm fuel' _ y5 h5
    simp at e0 e1 e2 e3 e4
    subst e0 e1 e2 e3 e4
    exact ⟨⟨n0, n1, n2, n3, n4, o⟩, RelL.cons (by simp [Rel]) (RelL.cons (by simp [Rel]) (RelL.cons (by simp [Rel]) (RelL.cons (by simp [Rel]) (RelL.cons (by simp [Rel]) r5)))), (Ones.append (vs := [_, _, _, _, _]) (by simp [Ones, Value.oneCell']) o5)⟩
theorem one_of_sl {f : Bool} {n : Nat} {cs : List AV} {E : Env} {G : Heap} {v : Value} (h : Rel E G (.sl f n cs) v) : v.oneCell' = true := by
  simp only [Rel] at h
  rcases h with ⟨a, cap, rfl, _⟩ | ⟨_, _, _, _, rfl, _⟩ <;> rfl
theorem rdInst : Rd enc Tryz.prog w sp held 47 Inst.enc := by
  intro fuel cs x h
  obtain ⟨hl, fuel', hf⟩ := trod_struct Tryz.underlying47 h
  simp only [cellsOf_sz, sz47] at hl
  simp only [List.mem_cons, List.not_mem_nil, or_false, forall_eq_or_imp, forall_eq, cellsOf_sz, sz42, sz3, sz45] at hf
  match cs, hl, hf with
  | [c0, c1, c2, c3, c4, c5, c6], _, ⟨⟨y0, h0⟩, ⟨y1, h1⟩, ⟨y2, h2⟩, ⟨y3, h3⟩, ⟨y4, h4⟩⟩ =>
    obtain ⟨n0, e0⟩ := rd_int Tryz.underlying3 h0
    obtain ⟨n1, e1⟩ := rd_int Tryz.underlying3 h1
    obtain ⟨v, r2, o2⟩ := rdWide fuel' _ y2 h2
    obtain ⟨m, r3, o3⟩ := rdWide fuel' _ y3 h3
    obtain ⟨l, u, e4, r4⟩ := rd_slice (s := 11) (f := Action.enc) Tryz.underlying45 (by kernel_rfl) (by omega) Action.len rdAction h4
    simp at e0 e1 e4
    subst e0 e1 e4
    exact ⟨⟨n0, n1, v, m, l⟩, RelL.cons (by simp [Rel]) (RelL.cons (by simp [Rel]) (r2.append (r3.append (RelL.cons r4 RelL.nil)))),
      (Ones.append (vs := [_, _]) (by simp [Ones, Value.oneCell']) (o2.append (o3.append (Ones.single (one_of_sl r4)))))⟩
theorem rdFlowMod : Rd enc Tryz.prog w sp held 28 FlowMod.enc := by
  intro fuel cs x h
  obtain ⟨hl, fuel', hf⟩ := trod_struct Tryz.underlying28 h
  simp only [cellsOf_sz, sz28] at hl
  simp only [List.mem_cons, List.not_mem_nil, or_false, forall_eq_or_imp, forall_eq, cellsOf_sz, sz24, sz3, sz25, sz26] at hf
  match cs, hl, hf with
  | [c0, c1, c2, c3, c4, c5, c6, c7, c8, c9, c10, c11, c12], _, ⟨⟨y0, h0⟩, ⟨y1, h1⟩, ⟨y2, h2⟩, ⟨y3, h3⟩, ⟨y4, h4⟩, ⟨y5, h5⟩, ⟨y6, h6⟩, ⟨y7, h7⟩, ⟨y8, h8⟩, ⟨y9, h9⟩, ⟨y10, h10⟩, ⟨y11, h11⟩, ⟨y12, h12⟩⟩ =>
    obtain ⟨b0, e0⟩ := rd_u64 Tryz.underlying24 h0
    obtain ⟨b1, e1⟩ := rd_u64 Tryz.underlying24 h1
    obtain ⟨n2, e2⟩ := rd_int Tryz.underlying3 h2
    obtain ⟨n3, e3⟩ := rd_int Tryz.underlying3 h3
    obtain ⟨n4, e4⟩ := rd_int Tryz.underlying3 h4
    obtain ⟨n5, e5⟩ := rd_int Tryz.underlying3 h5
    obtain ⟨n6, e6⟩ := rd_int Tryz.underlying3 h6
    obtain ⟨n7, e7⟩ := rd_int Tryz.underlying3 h7
    obtain ⟨n8, e8⟩ := rd_int Tryz.underlying3 h8
    obtain ⟨n9, e9⟩ := rd_int Tryz.underlying3 h9
    obtain ⟨n10, e10⟩ := rd_int Tryz.underlying3 h10
    obtain ⟨l, u, e11, r11⟩ := rd_slice (s := 6) (f := Oxm.enc) Tryz.underlying25 (by kernel_rfl) (by omega) Oxm.len rdOxm h11
    obtain ⟨k, u', e12, r12⟩ := rd_slice (s := 7) (f := Inst.enc) Tryz.underlying26 (by kernel_rfl) (by omega) Inst.len rdInst h12
    simp at e0 e1 e2 e3 e4 e5 e6 e7 e8 e9 e10 e11 e12
    subst e0 e1 e2 e3 e4 e5 e6 e7 e8 e9 e10 e11 e12
    have hh : RelL E0 (GWh w) [.int .u64 (uI b0), .int .u64 (uI b1), .int .i64 n2, .int .i64 n3, .int .i64 n4, .int .i64 n5, .int .i64 n6, .int .i64 n7, .int .i64 n8, .int .i64 n9, .int .i64 n10]
        [.int .u64 (uI b0), .int .u64 (uI b1), .int .i64 n2, .int .i64 n3, .int .i64 n4, .int .i64 n5, .int .i64 n6, .int .i64 n7, .int .i64 n8, .int .i64 n9, .int .i64 n10] := by simp [RelL, Rel]
    exact ⟨⟨b0, b1, n2, n3, n4, n5, n6, n7, n8, n9, n10, l, k⟩, hh.append (RelL.cons r11 (RelL.cons r12 RelL.nil)),
      (Ones.append (vs := [_, _, _, _, _, _, _, _, _, _, _]) (by simp [Ones, Value.oneCell']) (Ones.append (vs := [_]) (Ones.single (one_of_sl r11)) (Ones.single (one_of_sl r12))))⟩
end
end Go.Proofs.YtiifjagnhnchoaaGreat
end

section
set_option linter.unusedVariables false
set_option linter.unusedSimpArgs false
namespace Go.Proofs.YtiifjagnhnchoaaGreat
open Go Go.AI Go.Proofs Go.Proofs.YtiifjagnhnchoaaGreat
theorem law_own : ownKnob Tryz.prog.godebug = none := by kernel_rfl
theorem law_laid : laidOutB Tryz.prog = true := by kernel_rfl
def zeroFlowMod : Array Value := #[.int .u64 0, .int .u64 0, .int .i64 0, .int .i64 0, .int .i64 0, .int .i64 0, .int .i64 0, .int .i64 0, .int .i64 0, .int .i64 0, .int .i64 0, .slice none 0 0, .slice none 0 0]
def zeroCells (n : Nat) : Array Value := (List.replicate n (Value.int .u64 0)).toArray
theorem rdvFlowMod : RdV Tryz.prog 28 (fun a => ∃ x, a = .agg (FlowMod.enc x)) := rdV_agg (.inl ⟨_, Tryz.underlying28⟩) (fun _ _ _ => rdFlowMod)
end Go.Proofs.YtiifjagnhnchoaaGreat
end

section
set_option linter.unusedVariables false
set_option linter.unusedSimpArgs false
namespace Go.Proofs.YtiifjagnhnchoaaGreat
open Go Go.AI Go.Proofs

theorem less_c (a b : Wide) : FnP Tryz.prog 125 [.agg a.enc, .agg b.enc] (.agg (a.less b).enc) := by
  refine FnP.intro Tryz.func125 rfl rfl fun G w => ?_
  repeat (refine WK.seq ?_)
  refine WK.reg 100 Tryz.ntmps125 (by kernel_rfl) ?_
  intro A hA Q hQ
  simp
  refine hQ _ _ ?_
  clear hQ hA
  repeat (refine WK.seq ?_)
  refine WK.reg 200 Tryz.ntmps125 (by kernel_rfl) ?_
  intro A hA Q hQ
  simp [Wide.enc]
  refine hQ _ _ ?_
  clear hQ hA
  refine WK.ret Tryz.func125 (by simp (maxDischargeDepth := 120) [Tryz.results125, Wide.enc, Wide.less]) (by simp [Wide.enc, Wide.less])
theorem zero_c (a : Wide) : FnP Tryz.prog 124 [.agg a.enc] (.bool a.zero) := by
  refine FnP.intro Tryz.func124 rfl rfl fun G w => ?_
  repeat (refine WK.seq ?_)
  refine WK.reg 100 Tryz.ntmps124 (by kernel_rfl) ?_
  intro A hA Q hQ
  simp
  refine hQ _ _ ?_
  clear hQ hA
  repeat (refine WK.seq ?_)
  refine WK.reg 200 Tryz.ntmps124 (by kernel_rfl) ?_
  intro A hA Q hQ
  simp [Wide.enc]
  refine hQ _ _ ?_
  clear hQ hA
  refine WK.ret Tryz.func124 (by simp (maxDischargeDepth := 120) [Tryz.results124, Wide.zero]) (by simp [Wide.zero])
theorem ror_c (a b : Wide) : FnP Tryz.prog 132 [.agg a.enc, .agg b.enc] (.agg (a.or b).enc) := by
  refine FnP.intro Tryz.func132 rfl rfl fun G w => ?_
  repeat (refine WK.seq ?_)
  refine WK.reg 100 Tryz.ntmps132 (by kernel_rfl) ?_
  intro A hA Q hQ
  simp
  refine hQ _ _ ?_
  clear hQ hA
  repeat (refine WK.seq ?_)
  refine WK.reg 200 Tryz.ntmps132 (by kernel_rfl) ?_
  intro A hA Q hQ
  simp [Wide.enc]
  refine hQ _ _ ?_
  clear hQ hA
  refine WK.ret Tryz.func132 (by simp (maxDischargeDepth := 120) [Tryz.results132, Wide.enc, Wide.or]) (by simp [Wide.enc, Wide.or])
theorem rless_c (a b : Wide) : FnP Tryz.prog 103 [.agg a.enc, .agg b.enc] (.agg (a.less b).enc) := by
  refine FnP.intro Tryz.func103 rfl rfl fun G w => ?_
  repeat (refine WK.seq ?_)
  refine WK.reg 100 Tryz.ntmps103 (by kernel_rfl) ?_
  intro A hA Q hQ
  simp
  refine hQ _ _ ?_
  clear hQ hA
  repeat (refine WK.seq ?_)
  refine WK.reg 200 Tryz.ntmps103 (by kernel_rfl) ?_
  intro A hA Q hQ
  simp [Wide.enc]
  refine hQ _ _ ?_
  clear hQ hA
  refine WK.ret Tryz.func103 (by simp (maxDischargeDepth := 120) [Tryz.results103, Wide.enc, Wide.less]) (by simp [Wide.enc, Wide.less])
theorem rzero_c (a : Wide) : FnP Tryz.prog 102 [.agg a.enc] (.bool a.zero) := by
  rw [Wide.zero_eq]
  cases hz : (a.hi == 0#64)
  all_goals
    refine FnP.intro Tryz.func102 rfl rfl fun G w => ?_
    repeat (refine WK.seq ?_)
    refine WK.reg 100 Tryz.ntmps102 (by kernel_rfl) ?_
    intro A hA Q hQ
    simp
    refine hQ _ _ ?_
    clear hQ hA
    repeat (refine WK.seq ?_)
    refine WK.reg 200 Tryz.ntmps102 (by kernel_rfl) ?_
    intro A hA Q hQ
    have hg3 : (A[3]?).bind (·.dst) = some 6 := by rw [hA]; rfl
    simp [Wide.enc, hz, hg3]
    refine hQ _ _ ?_
    clear hQ hA
    refine WK.ret Tryz.func102 (by simp (maxDischargeDepth := 120) [Tryz.results102]) (by simp)

end Go.Proofs.YtiifjagnhnchoaaGreat
end

section
set_option linter.unusedVariables false
set_option linter.unusedSimpArgs false
namespace Go.Proofs.YtiifjagnhnchoaaGreat
open Go Go.AI Go.Proofs

theorem fright_c (f : Int) : FnP Tryz.prog 136 [.int .i64 f] (.bool (fRight f)) := by
  cases h : decide (f ≥ 0)
  all_goals
    refine FnP.intro Tryz.func136 rfl rfl fun G w => ?_
    repeat (refine WK.seq ?_)
    refine WK.reg 100 Tryz.ntmps136 (by kernel_rfl) ?_
    intro A hA Q hQ
    simp
    refine hQ _ _ ?_
    clear hQ hA
    repeat (refine WK.seq ?_)
    refine WK.reg 200 Tryz.ntmps136 (by kernel_rfl) ?_
    intro A hA Q hQ
    have hg2 : (A[2]?).bind (·.dst) = some 5 := by rw [hA]; rfl
    simp [h, hg2]
    refine hQ _ _ ?_
    clear hQ hA
    refine WK.ret Tryz.func136 (by simp (maxDischargeDepth := 120) [Tryz.results136, fRight, h]) (by simp [fRight, h])
theorem rfright_c (f : Int) : FnP Tryz.prog 138 [.int .i64 f] (.bool (fRight f)) := by
  cases h : decide (f ≥ 0)
  all_goals
    refine FnP.intro Tryz.func138 rfl rfl fun G w => ?_
    repeat (refine WK.seq ?_)
    refine WK.reg 100 Tryz.ntmps138 (by kernel_rfl) ?_
    intro A hA Q hQ
    simp
    refine hQ _ _ ?_
    clear hQ hA
    repeat (refine WK.seq ?_)
    refine WK.reg 200 Tryz.ntmps138 (by kernel_rfl) ?_
    intro A hA Q hQ
    have hg2 : (A[2]?).bind (·.dst) = some 5 := by rw [hA]; rfl
    simp [h, hg2]
    refine hQ _ _ ?_
    clear hQ hA
    refine WK.ret Tryz.func138 (by simp (maxDischargeDepth := 120) [Tryz.results138, fRight, h]) (by simp [fRight, h])
def rowsC : List AV := fRows.flatMap rowEnc
@[simp] theorem rowsC_len : rowsC.length = 96 := rfl
theorem rows_c : FnP Tryz.prog 145 [] (.agg rowsC) := by
  refine FnP.intro Tryz.func145 rfl rfl fun G w => ?_
  repeat (refine WK.seq ?_)
  refine WK.reg 100 Tryz.ntmps145 (by kernel_rfl) ?_
  intro A hA Q hQ
  simp
  refine hQ _ _ ?_
  clear hQ hA
  repeat (refine WK.seq ?_)
  refine WK.reg 200 Tryz.ntmps145 (by kernel_rfl) ?_
  intro A hA Q hQ
  simp
  refine hQ _ _ ?_
  clear hQ hA
  refine WK.ret Tryz.func145 (by simp (maxDischargeDepth := 120) [Tryz.results145, rowsC, fRows, rowEnc]) (by simp [rowsC, fRows, rowEnc])
theorem rowEnc_len (r : Int × Int × Bool) : (rowEnc r).length = 4 := rfl
theorem rowEnc_cl (r : Int × Int × Bool) : ClL (rowEnc r) = true := by simp [rowEnc, ClL, Cl]
theorem row_sub (f : Int) (h : 0 ≤ f ∧ f < 24) : (rowsC.drop (f.toNat * 4)).take 4 = rowEnc (fRow f) := by
  unfold rowsC
  rw [fm_nth rowEnc_len _ _ (by show f.toNat < 24; omega)]
  unfold fRow; rw [if_pos h]
theorem fat_c (f : Int) : FnP Tryz.prog 122 [.int .i64 f] (.agg (rowEnc (fRow f))) := by
  refine FnP.intro Tryz.func122 rfl rfl fun G w => ?_
  repeat (refine WK.seq ?_)
  refine WK.reg 100 Tryz.ntmps122 (by kernel_rfl) ?_
  intro A hA Q hQ
  simp
  refine hQ _ _ ?_
  clear hQ hA
  repeat (refine WK.seq ?_)
  refine WK.reg 200 Tryz.ntmps122 (by kernel_rfl) ?_
  intro A hA Q hQ
  simp
  refine RunQ.call rfl rfl rfl rfl (by rfl) (by simp (maxDischargeDepth := 120)) (fright_c f) (by simp) ?_
  refine RunQ.eval ?_
  simp
  refine hQ _ _ ?_
  clear hQ hA
  refine WK.cond2 rfl (fun h => ?_) (fun h => ?_)
  · simp [fRight] at h
    have h2 : fRow f = (-1, 0, false) := by unfold fRow; rw [if_neg (by omega)]
    repeat (refine WK.seq ?_)
    refine WK.reg 300 Tryz.ntmps122 (by kernel_rfl) ?_
    intro A hA Q hQ
    simp
    refine hQ _ _ ?_
    clear hQ hA
    refine WK.ret Tryz.func122 (by simp (maxDischargeDepth := 120) [Tryz.results122, h2, rowEnc]) (by simp [h2, rowEnc])
  · simp [fRight] at h
    have h3 : f.toNat * 4 + 4 ≤ 96 := by omega
    repeat (first | refine WK.seq ?_ | refine WK.skip ?_)
    refine WK.reg 400 Tryz.ntmps122 (by kernel_rfl) ?_
    intro A hA Q hQ
    simp
    refine RunQ.call rfl rfl rfl rfl (by rfl) (by simp (maxDischargeDepth := 120) [h, h3, row_sub f h, rowEnc_len]) (rows_c) (by simp [h, h3, row_sub f h, rowEnc_len]) ?_
    refine RunQ.eval ?_
    simp [h, h3, row_sub f h, rowEnc_len]
    refine hQ _ _ ?_
    clear hQ hA
    refine WK.ret Tryz.func122 (by simp (maxDischargeDepth := 120) [Tryz.results122, rowEnc]) (by simp [rowEnc])
theorem fbits_c (f : Int) : FnP Tryz.prog 127 [.int .i64 f] (.int .i64 (fBits f)) := by
  refine FnP.intro Tryz.func127 rfl rfl fun G w => ?_
  repeat (refine WK.seq ?_)
  refine WK.reg 100 Tryz.ntmps127 (by kernel_rfl) ?_
  intro A hA Q hQ
  simp
  refine hQ _ _ ?_
  clear hQ hA
  repeat (refine WK.seq ?_)
  refine WK.reg 200 Tryz.ntmps127 (by kernel_rfl) ?_
  intro A hA Q hQ
  simp
  refine RunQ.call rfl rfl rfl rfl (by rfl) (by simp (maxDischargeDepth := 120) [rowEnc]) (fat_c f) (by simp [rowEnc]) ?_
  refine RunQ.eval ?_
  simp [rowEnc]
  refine hQ _ _ ?_
  clear hQ hA
  refine WK.ret Tryz.func127 (by simp (maxDischargeDepth := 120) [Tryz.results127, fBits]) (by simp [fBits])
theorem rup_c (f : Int) : FnP Tryz.prog 153 [.int .i64 f] (.tup [.junk, .int .i64 (rowUp f).1, .int .i64 (rowUp f).2.1, .bool (rowUp f).2.2]) := by
  unfold rowUp
  refine FnP.intro Tryz.func153 rfl rfl fun G w => ?_
  repeat (refine WK.seq ?_)
  refine WK.reg 100 Tryz.ntmps153 (by kernel_rfl) ?_
  intro A hA Q hQ
  simp
  refine hQ _ _ ?_
  clear hQ hA
  repeat (refine WK.seq ?_)
  refine WK.reg 200 Tryz.ntmps153 (by kernel_rfl) ?_
  intro A hA Q hQ
  simp
  refine hQ _ _ ?_
  clear hQ hA
  iterate 12
    repeat (first | refine WK.seq ?_ | refine WK.block ?_)
    refine WK.reg 300 Tryz.ntmps153 (by kernel_rfl) ?_
    intro A hA Q hQ
    simp
    refine hQ _ _ ?_
    clear hQ hA
    refine WK.cond2 rfl (fun h => ?_) (fun h => ?_)
    · simp at h
      repeat (refine WK.seq ?_)
      refine WK.reg 400 Tryz.ntmps153 (by kernel_rfl) ?_
      intro A hA Q hQ
      simp
      refine hQ _ _ ?_
      clear hQ hA
      refine WK.ret Tryz.func153 (by simp (maxDischargeDepth := 120) [Tryz.results153, h]) (by simp [h])
    simp at h
  repeat (first | refine WK.seq ?_ | refine WK.inBlock ?_ | refine WK.skip ?_)
  refine WK.reg 500 Tryz.ntmps153 (by kernel_rfl) ?_
  intro A hA Q hQ
  simp
  refine hQ _ _ ?_
  clear hQ hA
  refine WK.ret Tryz.func153 (by simp (maxDischargeDepth := 120) [Tryz.results153, *]) (by simp [*])
theorem rlow_c (f : Int) : FnP Tryz.prog 131 [.int .i64 f] (.tup [.junk, .int .i64 (fRow f).1, .int .i64 (fRow f).2.1, .bool (fRow f).2.2]) := by
  rw [← rowLow_eq]
  unfold rowLow
  refine FnP.intro Tryz.func131 rfl rfl fun G w => ?_
  repeat (refine WK.seq ?_)
  refine WK.reg 100 Tryz.ntmps131 (by kernel_rfl) ?_
  intro A hA Q hQ
  simp
  refine hQ _ _ ?_
  clear hQ hA
  repeat (refine WK.seq ?_)
  refine WK.reg 200 Tryz.ntmps131 (by kernel_rfl) ?_
  intro A hA Q hQ
  simp
  refine hQ _ _ ?_
  clear hQ hA
  iterate 12
    repeat (first | refine WK.seq ?_ | refine WK.block ?_)
    refine WK.reg 300 Tryz.ntmps131 (by kernel_rfl) ?_
    intro A hA Q hQ
    simp
    refine hQ _ _ ?_
    clear hQ hA
    refine WK.cond2 rfl (fun h => ?_) (fun h => ?_)
    · simp at h
      repeat (refine WK.seq ?_)
      refine WK.reg 400 Tryz.ntmps131 (by kernel_rfl) ?_
      intro A hA Q hQ
      simp
      refine hQ _ _ ?_
      clear hQ hA
      refine WK.ret Tryz.func131 (by simp (maxDischargeDepth := 120) [Tryz.results131, h]) (by simp [h])
    simp at h
  repeat (first | refine WK.seq ?_ | refine WK.inBlock ?_ | refine WK.skip ?_)
  refine WK.reg 500 Tryz.ntmps131 (by kernel_rfl) ?_
  intro A hA Q hQ
  simp
  refine RunQ.call rfl rfl rfl rfl (by rfl) (by simp (maxDischargeDepth := 120)) (rup_c f) (by simp) ?_
  refine RunQ.eval ?_
  simp
  refine hQ _ _ ?_
  clear hQ hA
  refine WK.ret Tryz.func131 (by simp (maxDischargeDepth := 120) [Tryz.results131, *]) (by simp [*])
theorem rfbits_c (f : Int) : FnP Tryz.prog 101 [.int .i64 f] (.int .i64 (fBits f)) := by
  refine FnP.intro Tryz.func101 rfl rfl fun G w => ?_
  repeat (refine WK.seq ?_)
  refine WK.reg 100 Tryz.ntmps101 (by kernel_rfl) ?_
  intro A hA Q hQ
  simp
  refine hQ _ _ ?_
  clear hQ hA
  repeat (refine WK.seq ?_)
  refine WK.reg 200 Tryz.ntmps101 (by kernel_rfl) ?_
  intro A hA Q hQ
  simp
  refine RunQ.call rfl rfl rfl rfl (by rfl) (by simp (maxDischargeDepth := 120)) (rlow_c f) (by simp) ?_
  refine RunQ.eval ?_
  simp
  refine hQ _ _ ?_
  clear hQ hA
  repeat (refine WK.seq ?_)
  refine WK.reg 300 Tryz.ntmps101 (by kernel_rfl) ?_
  intro A hA Q hQ
  simp
  refine hQ _ _ ?_
  clear hQ hA
  refine WK.ret Tryz.func101 (by simp (maxDischargeDepth := 120) [Tryz.results101, fBits]) (by simp [fBits])
theorem low1_c (n : Int) : FnP Tryz.prog 146 [.int .i64 n] (.int .u64 (uI (low64 n))) := by
  refine FnP.intro Tryz.func146 rfl rfl fun G w => ?_
  repeat (refine WK.seq ?_)
  refine WK.reg 100 Tryz.ntmps146 (by kernel_rfl) ?_
  intro A hA Q hQ
  simp
  refine hQ _ _ ?_
  clear hQ hA
  repeat (refine WK.seq ?_)
  refine WK.reg 200 Tryz.ntmps146 (by kernel_rfl) ?_
  intro A hA Q hQ
  simp
  refine hQ _ _ ?_
  clear hQ hA
  refine WK.cond2 rfl (fun h => ?_) (fun h => ?_)
  · simp at h
    have e : uI (low64 n) = 18446744073709551615 := by rw [low64_ge h]; exact low64_big
    repeat (refine WK.seq ?_)
    refine WK.reg 300 Tryz.ntmps146 (by kernel_rfl) ?_
    intro A hA Q hQ
    simp
    refine hQ _ _ ?_
    clear hQ hA
    refine WK.ret Tryz.func146 (by simp (maxDischargeDepth := 120) [Tryz.results146, e]) (by simp [e])
  · simp at h
    by_cases hn : n < 0
    · have e := low64_small (n := 0) (by omega) (by omega)
      have e2 := low64_neg hn
      repeat (first | refine WK.seq ?_ | refine WK.skip ?_)
      refine WK.reg 400 Tryz.ntmps146 (by kernel_rfl) ?_
      intro A hA Q hQ
      simp [hn, e]
      refine hQ _ _ ?_
      clear hQ hA
      refine WK.ret Tryz.func146 (by simp (maxDischargeDepth := 120) [Tryz.results146, e2]) (by simp [e2])
    · have e := low64_small (n := n) (by omega) h
      repeat (first | refine WK.seq ?_ | refine WK.skip ?_)
      refine WK.reg 500 Tryz.ntmps146 (by kernel_rfl) ?_
      intro A hA Q hQ
      simp [hn, e]
      refine hQ _ _ ?_
      clear hQ hA
      refine WK.ret Tryz.func146 (by simp (maxDischargeDepth := 120) [Tryz.results146]) (by simp)
theorem low_c (n : Int) : FnP Tryz.prog 126 [.int .i64 n] (.agg (lowW n).enc) := by
  have hc := clamp_le n
  have e : IntKind.i64.wrap (clamp n - 64) = clamp n - 64 := wrap_i64 (by omega) (by omega)
  refine FnP.intro Tryz.func126 rfl rfl fun G w => ?_
  repeat (refine WK.seq ?_)
  refine WK.reg 100 Tryz.ntmps126 (by kernel_rfl) ?_
  intro A hA Q hQ
  simp
  refine hQ _ _ ?_
  clear hQ hA
  repeat (refine WK.seq ?_)
  refine WK.reg 200 Tryz.ntmps126 (by kernel_rfl) ?_
  intro A hA Q hQ
  simp [clamp_eq]
  refine hQ _ _ ?_
  clear hQ hA
  repeat (refine WK.seq ?_)
  refine WK.reg 300 Tryz.ntmps126 (by kernel_rfl) ?_
  intro A hA Q hQ
  simp [e]
  refine RunQ.call rfl rfl rfl rfl (by rfl) (by simp (maxDischargeDepth := 120)) (low1_c (clamp n - 64)) (by simp) ?_
  refine RunQ.eval ?_
  simp
  refine RunQ.call rfl rfl rfl rfl (by rfl) (by simp (maxDischargeDepth := 120)) (low1_c (clamp n)) (by simp) ?_
  refine RunQ.eval ?_
  simp
  refine hQ _ _ ?_
  clear hQ hA
  refine WK.ret Tryz.func126 (by simp (maxDischargeDepth := 120) [Tryz.results126, lowW, Wide.enc]) (by simp [lowW, Wide.enc])
theorem rbit_c (i : Nat) (h : i < 128) : FnP Tryz.prog 133 [.int .i64 i] (.agg (bitW i).enc) := by
  have h0 : ¬ ((i : Int) < 0) := by omega
  have h1 : ¬ (127 < (i : Int)) := by omega
  have h2 : decide ((i : Int) < 0) = false := decide_eq_false h0
  refine FnP.intro Tryz.func133 rfl rfl fun G w => ?_
  repeat (refine WK.seq ?_)
  refine WK.reg 100 Tryz.ntmps133 (by kernel_rfl) ?_
  intro A hA Q hQ
  simp
  refine hQ _ _ ?_
  clear hQ hA
  repeat (first | refine WK.seq ?_ | refine WK.block ?_)
  refine WK.reg 200 Tryz.ntmps133 (by kernel_rfl) ?_
  intro A hA Q hQ
  have hg2 : (A[2]?).bind (·.dst) = some 6 := by rw [hA]; rfl
  simp [h0, h1, hg2]
  refine hQ _ _ ?_
  clear hQ hA
  refine WK.cond2 rfl (fun h3 => ?_) (fun h3 => ?_)
  · simp [h0, h1] at h3
  repeat (refine WK.seq ?_)
  refine WK.reg 300 Tryz.ntmps133 (by kernel_rfl) ?_
  intro A hA Q hQ
  simp
  refine hQ _ _ ?_
  clear hQ hA
  refine WK.cond2 rfl (fun h4 => ?_) (fun h4 => ?_)
  · simp at h4
    have h5 : i < 64 := by omega
    have e1 : IntKind.u64.wrap (i : Int) = i := by
      have := wrap_u64 (BitVec.ofNat 64 i)
      simp [uI] at this
      rw [show (i : Int) % 18446744073709551616 = i by omega] at this
      exact this
    have e2 := bit64 h5
    repeat (refine WK.seq ?_)
    refine WK.reg 400 Tryz.ntmps133 (by kernel_rfl) ?_
    intro A hA Q hQ
    simp [e1, h0, e2]
    refine hQ _ _ ?_
    clear hQ hA
    refine WK.ret Tryz.func133 (by simp (maxDischargeDepth := 120) [Tryz.results133, bitW, h5, Wide.enc, uI_zero]) (by simp [bitW, h5, Wide.enc, uI_zero])
  · simp at h4
    have h5 : ¬ i < 64 := by omega
    obtain ⟨m, rfl⟩ : ∃ m, i = m + 64 := ⟨i - 64, by omega⟩
    have h6 : m < 64 := by omega
    have e0 : IntKind.i64.wrap (m : Int) = m := wrap_i64 (by omega) (by omega)
    have e1 : IntKind.u64.wrap (m : Int) = m := by
      have := wrap_u64 (BitVec.ofNat 64 m)
      simp [uI] at this
      rw [show (m : Int) % 18446744073709551616 = m by omega] at this
      exact this
    have e2 := bit64 h6
    have h7 : ¬ ((m : Int) < 0) := by omega
    repeat (first | refine WK.seq ?_ | refine WK.inBlock ?_ | refine WK.skip ?_)
    refine WK.reg 500 Tryz.ntmps133 (by kernel_rfl) ?_
    intro A hA Q hQ
    simp [e0, e1, h7, e2]
    refine hQ _ _ ?_
    clear hQ hA
    refine WK.ret Tryz.func133 (by simp (maxDischargeDepth := 120) [Tryz.results133, bitW, h, h5, h6, Wide.enc, uI_zero]) (by simp [bitW, h, h5, h6, Wide.enc, uI_zero])
end Go.Proofs.YtiifjagnhnchoaaGreat
end

section
set_option linter.unusedVariables false
set_option linter.unusedSimpArgs false
namespace Go.Proofs.YtiifjagnhnchoaaGreat
open Go Go.AI Go.Proofs

theorem rlow2_c (n : Int) (hn : -10000 ≤ n ∧ n ≤ 10000) : FnP Tryz.prog 100 [.int .i64 n] (.agg (lowW n).enc) := by
  refine FnP.intro Tryz.func100 rfl rfl fun G w => ?_
  repeat (refine WK.seq ?_)
  refine WK.reg 100 Tryz.ntmps100 (by kernel_rfl) ?_
  intro A hA Q hQ
  simp
  refine hQ _ _ ?_
  clear hQ hA
  repeat (refine WK.seq ?_)
  refine WK.reg 200 Tryz.ntmps100 (by kernel_rfl) ?_
  intro A hA Q hQ
  simp
  refine hQ _ _ ?_
  clear hQ hA
  repeat (refine WK.seq ?_)
  refine WK.reg 300 Tryz.ntmps100 (by kernel_rfl) ?_
  intro A hA Q hQ
  simp
  refine hQ _ _ ?_
  clear hQ hA
  repeat (refine WK.block ?_)
  refine WK.loopI (fun n => n) (fun i : Nat => (⟨(upd (upd (upd (upd J 0 (.int .i64 n)) 2 (.ptr 0 0)) 3 (.ptr 101 0)) 4 (.int .i64 i)), (upd (upd B0 0 (.var wideZ.enc)) 101 (.var (lowW i).enc)), 0⟩ : St)) (fun i => i ≤ 128 ∧ ((i : Int) ≤ n ∨ i = 0)) (fun i => 128 - i) (0) (by repeat (first | exact TmW.nil | refine TmW.upd ?_ (by simp (maxDischargeDepth := 120) [Wide.enc, wideZ, uI_zero, lowW_zero']))) (by repeat (first | exact BxW.nil | refine BxW.upd ?_ (by simp (maxDischargeDepth := 120) [Wide.enc, wideZ, uI_zero, lowW_zero']))) (by first | exact InjW.id | exact InjW.nil | exact InjW.one | exact InjW.two (by simp) | exact InjW.three (by simp) (by simp) (by simp)) (⟨by omega, .inr rfl⟩) (fun i hi IH => ?_)
  by_cases h0 : (i : Int) < n
  · repeat (refine WK.seq ?_)
    refine WK.reg 400 Tryz.ntmps100 (by kernel_rfl) ?_
    intro A hA Q hQ
    have hg3 : (A[3]?).bind (·.dst) = some 9 := by rw [hA]; rfl
    simp [h0, hg3]
    refine hQ _ _ ?_
    clear hQ hA
    refine WK.cond2 rfl (fun h1 => ?_) (fun h1 => ?_)
    · simp at h1
      have h2 : i < 128 := by omega
      have h6 : IntKind.i64.wrap ((i : Int) + 1) = i + 1 := wrap_i64 (by omega) (by omega)
      repeat (first | refine WK.seq ?_ | refine WK.block ?_ | refine WK.skip ?_)
      refine WK.regD 500 clsOf (by kernel_rfl) Tryz.ntmps100 (by kernel_rfl) (by kernel_rfl) ?_
      intro A hA Q hQ
      simp
      refine RunQ.call rfl rfl rfl rfl (by rfl) (by simp (maxDischargeDepth := 120)) (rbit_c i h2) (by simp) ?_
      refine RunQ.eval ?_
      simp
      refine RunQ.call rfl rfl rfl rfl (by rfl) (by simp (maxDischargeDepth := 120)) (ror_c (lowW i) (bitW i)) (by simp) ?_
      refine RunQ.eval ?_
      simp
      refine hQ _ _ ?_
      clear hQ hA
      repeat (refine WK.inBlock ?_)
      refine WK.reg 600 Tryz.ntmps100 (by kernel_rfl) ?_
      intro A hA Q hQ
      simp [h6]
      refine hQ _ _ ?_
      clear hQ hA
      refine WK.next (fun n => n) (IH (i + 1) (⟨by omega, .inl (by omega)⟩) (by first | omega | (dsimp only; omega))) (by repeat (first | exact TmW.nil | refine TmW.upd ?_ (by simp (maxDischargeDepth := 120) [lowW_step h2]))) (by repeat (first | exact BxW.nil | refine BxW.upd ?_ (by simp (maxDischargeDepth := 120) [lowW_step h2]))) (by first | exact InjW.id | exact InjW.nil | exact InjW.one | exact InjW.two (by simp) | exact InjW.three (by simp) (by simp) (by simp))
    · simp at h1
      have e : lowW n = lowW i := by
        unfold lowW; rw [show clamp n = clamp i by rw [clamp_id (n := i) (by omega) (by omega)]; unfold clamp; rw [if_neg (show ¬ n < 0 by omega)]; split <;> omega]
      repeat (first | refine WK.seq ?_ | refine WK.exit rfl ?_)
      refine WK.reg 700 Tryz.ntmps100 (by kernel_rfl) ?_
      intro A hA Q hQ
      simp
      refine hQ _ _ ?_
      clear hQ hA
      refine WK.ret Tryz.func100 (by simp (maxDischargeDepth := 120) [Tryz.results100, e]) (by simp [e])
  · repeat (refine WK.seq ?_)
    refine WK.reg 800 Tryz.ntmps100 (by kernel_rfl) ?_
    intro A hA Q hQ
    have hg3 : (A[3]?).bind (·.dst) = some 9 := by rw [hA]; rfl
    simp [h0, hg3]
    refine hQ _ _ ?_
    clear hQ hA
    refine WK.cond2 rfl (fun h1 => ?_) (fun h1 => ?_)
    · simp at h1
    have e : lowW n = lowW i := by
      unfold lowW; rw [show clamp n = clamp i by rw [clamp_id (n := i) (by omega) (by omega)]; unfold clamp; split <;> (try split) <;> omega]
    repeat (first | refine WK.seq ?_ | refine WK.exit rfl ?_)
    refine WK.reg 900 Tryz.ntmps100 (by kernel_rfl) ?_
    intro A hA Q hQ
    simp
    refine hQ _ _ ?_
    clear hQ hA
    refine WK.ret Tryz.func100 (by simp (maxDischargeDepth := 120) [Tryz.results100, e]) (by simp [e])
end Go.Proofs.YtiifjagnhnchoaaGreat
end
