/- The facts of the types of the program that the claim is about: how many cells and bytes a value has, which parts, which zero value, and which values are compared cell by cell. -/
import Derived.Test.YtmhapglejjehbaaGreatProg
import Derived.Test.YtmhapglejjehbaaGreatDa
import Derived.Test.YtmhapglejjehbaaGreatRows
set_option linter.all false
set_option linter.unnecessarySimpa false
namespace Go.Proofs.YtmhapglejjehbaaGreat
open Go Go.AI Go.Proofs
@[simp] theorem td1 : td Tryz.prog 1 = .func := by kernel_rfl
@[simp] theorem sz1 : sz Tryz.prog 1 = 1 := by kernel_rfl
@[simp] theorem byt1 : byt Tryz.prog 1 = 8 := by kernel_rfl
@[simp] theorem zr1 : zr Tryz.prog 1 = .nilf := by kernel_rfl
@[simp] theorem td2 : td Tryz.prog 2 = .int .i64 := by kernel_rfl
@[simp] theorem sz2 : sz Tryz.prog 2 = 1 := by kernel_rfl
@[simp] theorem byt2 : byt Tryz.prog 2 = 8 := by kernel_rfl
@[simp] theorem zr2 : zr Tryz.prog 2 = .int .i64 0 := by kernel_rfl
@[simp] theorem td3 : td Tryz.prog 3 = .int .i64 := by kernel_rfl
@[simp] theorem sz3 : sz Tryz.prog 3 = 1 := by kernel_rfl
@[simp] theorem byt3 : byt Tryz.prog 3 = 8 := by kernel_rfl
@[simp] theorem zr3 : zr Tryz.prog 3 = .int .i64 0 := by kernel_rfl
@[simp] theorem td4 : td Tryz.prog 4 = .bool := by kernel_rfl
@[simp] theorem sz4 : sz Tryz.prog 4 = 1 := by kernel_rfl
@[simp] theorem byt4 : byt Tryz.prog 4 = 1 := by kernel_rfl
@[simp] theorem zr4 : zr Tryz.prog 4 = .bool false := by kernel_rfl
@[simp] theorem td5 : td Tryz.prog 5 = .int .u8 := by kernel_rfl
@[simp] theorem sz5 : sz Tryz.prog 5 = 1 := by kernel_rfl
@[simp] theorem byt5 : byt Tryz.prog 5 = 1 := by kernel_rfl
@[simp] theorem zr5 : zr Tryz.prog 5 = .int .u8 0 := by kernel_rfl
@[simp] theorem td6 : td Tryz.prog 6 = .int .u8 := by kernel_rfl
@[simp] theorem sz6 : sz Tryz.prog 6 = 1 := by kernel_rfl
@[simp] theorem byt6 : byt Tryz.prog 6 = 1 := by kernel_rfl
@[simp] theorem zr6 : zr Tryz.prog 6 = .int .u8 0 := by kernel_rfl
@[simp] theorem td7 : td Tryz.prog 7 = .struct [(0, 2), (1, 3), (2, 4), (3, 6)] := by kernel_rfl
@[simp] theorem sz7 : sz Tryz.prog 7 = 4 := by kernel_rfl
@[simp] theorem byt7 : byt Tryz.prog 7 = 24 := by kernel_rfl
@[simp] theorem zr7 : zr Tryz.prog 7 = .agg ([.int .i64 0, .int .i64 0, .bool false, .int .u8 0]) := by kernel_rfl
@[simp] theorem fl7 : flatT Tryz.prog 7 = some ([false, false, true, false]) := by kernel_rfl
@[simp] theorem td8 : td Tryz.prog 8 = .struct [(0, 2), (1, 3), (2, 4), (3, 6)] := by kernel_rfl
@[simp] theorem sz8 : sz Tryz.prog 8 = 4 := by kernel_rfl
@[simp] theorem byt8 : byt Tryz.prog 8 = 24 := by kernel_rfl
@[simp] theorem zr8 : zr Tryz.prog 8 = .agg ([.int .i64 0, .int .i64 0, .bool false, .int .u8 0]) := by kernel_rfl
@[simp] theorem fl8 : flatT Tryz.prog 8 = some ([false, false, true, false]) := by kernel_rfl
@[simp] theorem td9 : td Tryz.prog 9 = .string := by kernel_rfl
@[simp] theorem sz9 : sz Tryz.prog 9 = 1 := by kernel_rfl
@[simp] theorem byt9 : byt Tryz.prog 9 = 16 := by kernel_rfl
@[simp] theorem zr9 : zr Tryz.prog 9 = .str ByteArray.empty := by kernel_rfl
@[simp] theorem td10 : td Tryz.prog 10 = .string := by kernel_rfl
@[simp] theorem sz10 : sz Tryz.prog 10 = 1 := by kernel_rfl
@[simp] theorem byt10 : byt Tryz.prog 10 = 16 := by kernel_rfl
@[simp] theorem zr10 : zr Tryz.prog 10 = .str ByteArray.empty := by kernel_rfl
@[simp] theorem td11 : td Tryz.prog 11 = .string := by kernel_rfl
@[simp] theorem sz11 : sz Tryz.prog 11 = 1 := by kernel_rfl
@[simp] theorem byt11 : byt Tryz.prog 11 = 16 := by kernel_rfl
@[simp] theorem zr11 : zr Tryz.prog 11 = .str ByteArray.empty := by kernel_rfl
@[simp] theorem td12 : td Tryz.prog 12 = .int .u64 := by kernel_rfl
@[simp] theorem sz12 : sz Tryz.prog 12 = 1 := by kernel_rfl
@[simp] theorem byt12 : byt Tryz.prog 12 = 8 := by kernel_rfl
@[simp] theorem zr12 : zr Tryz.prog 12 = .int .u64 0 := by kernel_rfl
@[simp] theorem td13 : td Tryz.prog 13 = .struct [(0, 9), (1, 12)] := by kernel_rfl
@[simp] theorem sz13 : sz Tryz.prog 13 = 2 := by kernel_rfl
@[simp] theorem byt13 : byt Tryz.prog 13 = 24 := by kernel_rfl
@[simp] theorem zr13 : zr Tryz.prog 13 = .agg ([.str ByteArray.empty, .int .u64 0]) := by kernel_rfl
@[simp] theorem td14 : td Tryz.prog 14 = .struct [(0, 9), (1, 12)] := by kernel_rfl
@[simp] theorem sz14 : sz Tryz.prog 14 = 2 := by kernel_rfl
@[simp] theorem byt14 : byt Tryz.prog 14 = 24 := by kernel_rfl
@[simp] theorem zr14 : zr Tryz.prog 14 = .agg ([.str ByteArray.empty, .int .u64 0]) := by kernel_rfl
@[simp] theorem td15 : td Tryz.prog 15 = .ptr 255 := by kernel_rfl
@[simp] theorem sz15 : sz Tryz.prog 15 = 1 := by kernel_rfl
@[simp] theorem byt15 : byt Tryz.prog 15 = 8 := by kernel_rfl
@[simp] theorem zr15 : zr Tryz.prog 15 = .nilp := by kernel_rfl
@[simp] theorem td16 : td Tryz.prog 16 = .ptr 258 := by kernel_rfl
@[simp] theorem sz16 : sz Tryz.prog 16 = 1 := by kernel_rfl
@[simp] theorem byt16 : byt Tryz.prog 16 = 8 := by kernel_rfl
@[simp] theorem zr16 : zr Tryz.prog 16 = .nilp := by kernel_rfl
@[simp] theorem td17 : td Tryz.prog 17 = .ptr 267 := by kernel_rfl
@[simp] theorem sz17 : sz Tryz.prog 17 = 1 := by kernel_rfl
@[simp] theorem byt17 : byt Tryz.prog 17 = 8 := by kernel_rfl
@[simp] theorem zr17 : zr Tryz.prog 17 = .nilp := by kernel_rfl
@[simp] theorem td18 : td Tryz.prog 18 = .struct [(0, 17)] := by kernel_rfl
@[simp] theorem sz18 : sz Tryz.prog 18 = 1 := by kernel_rfl
@[simp] theorem byt18 : byt Tryz.prog 18 = 8 := by kernel_rfl
@[simp] theorem zr18 : zr Tryz.prog 18 = .agg ([.nilp]) := by kernel_rfl
@[simp] theorem td19 : td Tryz.prog 19 = .struct [(0, 17)] := by kernel_rfl
@[simp] theorem sz19 : sz Tryz.prog 19 = 1 := by kernel_rfl
@[simp] theorem byt19 : byt Tryz.prog 19 = 8 := by kernel_rfl
@[simp] theorem zr19 : zr Tryz.prog 19 = .agg ([.nilp]) := by kernel_rfl
@[simp] theorem td20 : td Tryz.prog 20 = .iface true := by kernel_rfl
@[simp] theorem sz20 : sz Tryz.prog 20 = 1 := by kernel_rfl
@[simp] theorem byt20 : byt Tryz.prog 20 = 16 := by kernel_rfl
@[simp] theorem zr20 : zr Tryz.prog 20 = .niface := by kernel_rfl
@[simp] theorem td21 : td Tryz.prog 21 = .int .i32 := by kernel_rfl
@[simp] theorem sz21 : sz Tryz.prog 21 = 1 := by kernel_rfl
@[simp] theorem byt21 : byt Tryz.prog 21 = 4 := by kernel_rfl
@[simp] theorem zr21 : zr Tryz.prog 21 = .int .i32 0 := by kernel_rfl
@[simp] theorem td22 : td Tryz.prog 22 = .slice 46 := by kernel_rfl
@[simp] theorem sz22 : sz Tryz.prog 22 = 1 := by kernel_rfl
@[simp] theorem byt22 : byt Tryz.prog 22 = 24 := by kernel_rfl
@[simp] theorem zr22 : zr Tryz.prog 22 = .sl true 0 [] := by kernel_rfl
@[simp] theorem td23 : td Tryz.prog 23 = .slice 39 := by kernel_rfl
@[simp] theorem sz23 : sz Tryz.prog 23 = 1 := by kernel_rfl
@[simp] theorem byt23 : byt Tryz.prog 23 = 24 := by kernel_rfl
@[simp] theorem zr23 : zr Tryz.prog 23 = .sl true 0 [] := by kernel_rfl
@[simp] theorem td24 : td Tryz.prog 24 = .struct [(0, 22), (1, 23)] := by kernel_rfl
@[simp] theorem sz24 : sz Tryz.prog 24 = 2 := by kernel_rfl
@[simp] theorem byt24 : byt Tryz.prog 24 = 48 := by kernel_rfl
@[simp] theorem zr24 : zr Tryz.prog 24 = .agg ([.sl true 0 [], .sl true 0 []]) := by kernel_rfl
@[simp] theorem td25 : td Tryz.prog 25 = .struct [(0, 22), (1, 23)] := by kernel_rfl
@[simp] theorem sz25 : sz Tryz.prog 25 = 2 := by kernel_rfl
@[simp] theorem byt25 : byt Tryz.prog 25 = 48 := by kernel_rfl
@[simp] theorem zr25 : zr Tryz.prog 25 = .agg ([.sl true 0 [], .sl true 0 []]) := by kernel_rfl
@[simp] theorem td26 : td Tryz.prog 26 = .func := by kernel_rfl
@[simp] theorem sz26 : sz Tryz.prog 26 = 1 := by kernel_rfl
@[simp] theorem byt26 : byt Tryz.prog 26 = 8 := by kernel_rfl
@[simp] theorem zr26 : zr Tryz.prog 26 = .nilf := by kernel_rfl
@[simp] theorem td27 : td Tryz.prog 27 = .func := by kernel_rfl
@[simp] theorem sz27 : sz Tryz.prog 27 = 1 := by kernel_rfl
@[simp] theorem byt27 : byt Tryz.prog 27 = 8 := by kernel_rfl
@[simp] theorem zr27 : zr Tryz.prog 27 = .nilf := by kernel_rfl
@[simp] theorem td29 : td Tryz.prog 29 = .func := by kernel_rfl
@[simp] theorem sz29 : sz Tryz.prog 29 = 1 := by kernel_rfl
@[simp] theorem byt29 : byt Tryz.prog 29 = 8 := by kernel_rfl
@[simp] theorem zr29 : zr Tryz.prog 29 = .nilf := by kernel_rfl
@[simp] theorem td30 : td Tryz.prog 30 = .func := by kernel_rfl
@[simp] theorem sz30 : sz Tryz.prog 30 = 1 := by kernel_rfl
@[simp] theorem byt30 : byt Tryz.prog 30 = 8 := by kernel_rfl
@[simp] theorem zr30 : zr Tryz.prog 30 = .nilf := by kernel_rfl
@[simp] theorem td31 : td Tryz.prog 31 = .slice 55 := by kernel_rfl
@[simp] theorem sz31 : sz Tryz.prog 31 = 1 := by kernel_rfl
@[simp] theorem byt31 : byt Tryz.prog 31 = 24 := by kernel_rfl
@[simp] theorem zr31 : zr Tryz.prog 31 = .sl true 0 [] := by kernel_rfl
@[simp] theorem td32 : td Tryz.prog 32 = .func := by kernel_rfl
@[simp] theorem sz32 : sz Tryz.prog 32 = 1 := by kernel_rfl
@[simp] theorem byt32 : byt Tryz.prog 32 = 8 := by kernel_rfl
@[simp] theorem zr32 : zr Tryz.prog 32 = .nilf := by kernel_rfl
@[simp] theorem td33 : td Tryz.prog 33 = .func := by kernel_rfl
@[simp] theorem sz33 : sz Tryz.prog 33 = 1 := by kernel_rfl
@[simp] theorem byt33 : byt Tryz.prog 33 = 8 := by kernel_rfl
@[simp] theorem zr33 : zr Tryz.prog 33 = .nilf := by kernel_rfl
@[simp] theorem td34 : td Tryz.prog 34 = .slice 3 := by kernel_rfl
@[simp] theorem sz34 : sz Tryz.prog 34 = 1 := by kernel_rfl
@[simp] theorem byt34 : byt Tryz.prog 34 = 24 := by kernel_rfl
@[simp] theorem zr34 : zr Tryz.prog 34 = .sl true 0 [] := by kernel_rfl
@[simp] theorem td35 : td Tryz.prog 35 = .func := by kernel_rfl
@[simp] theorem sz35 : sz Tryz.prog 35 = 1 := by kernel_rfl
@[simp] theorem byt35 : byt Tryz.prog 35 = 8 := by kernel_rfl
@[simp] theorem zr35 : zr Tryz.prog 35 = .nilf := by kernel_rfl
@[simp] theorem td36 : td Tryz.prog 36 = .func := by kernel_rfl
@[simp] theorem sz36 : sz Tryz.prog 36 = 1 := by kernel_rfl
@[simp] theorem byt36 : byt Tryz.prog 36 = 8 := by kernel_rfl
@[simp] theorem zr36 : zr Tryz.prog 36 = .nilf := by kernel_rfl
@[simp] theorem td37 : td Tryz.prog 37 = .func := by kernel_rfl
@[simp] theorem sz37 : sz Tryz.prog 37 = 1 := by kernel_rfl
@[simp] theorem byt37 : byt Tryz.prog 37 = 8 := by kernel_rfl
@[simp] theorem zr37 : zr Tryz.prog 37 = .nilf := by kernel_rfl
@[simp] theorem td38 : td Tryz.prog 38 = .struct [(0, 3), (1, 3), (2, 3), (3, 3)] := by kernel_rfl
@[simp] theorem sz38 : sz Tryz.prog 38 = 4 := by kernel_rfl
@[simp] theorem byt38 : byt Tryz.prog 38 = 32 := by kernel_rfl
@[simp] theorem zr38 : zr Tryz.prog 38 = .agg ([.int .i64 0, .int .i64 0, .int .i64 0, .int .i64 0]) := by kernel_rfl
@[simp] theorem fl38 : flatT Tryz.prog 38 = some ([false, false, false, false]) := by kernel_rfl
@[simp] theorem td39 : td Tryz.prog 39 = .struct [(0, 3), (1, 3), (2, 3), (3, 3)] := by kernel_rfl
@[simp] theorem sz39 : sz Tryz.prog 39 = 4 := by kernel_rfl
@[simp] theorem byt39 : byt Tryz.prog 39 = 32 := by kernel_rfl
@[simp] theorem zr39 : zr Tryz.prog 39 = .agg ([.int .i64 0, .int .i64 0, .int .i64 0, .int .i64 0]) := by kernel_rfl
@[simp] theorem fl39 : flatT Tryz.prog 39 = some ([false, false, false, false]) := by kernel_rfl
@[simp] theorem td40 : td Tryz.prog 40 = .func := by kernel_rfl
@[simp] theorem sz40 : sz Tryz.prog 40 = 1 := by kernel_rfl
@[simp] theorem byt40 : byt Tryz.prog 40 = 8 := by kernel_rfl
@[simp] theorem zr40 : zr Tryz.prog 40 = .nilf := by kernel_rfl
@[simp] theorem td41 : td Tryz.prog 41 = .func := by kernel_rfl
@[simp] theorem sz41 : sz Tryz.prog 41 = 1 := by kernel_rfl
@[simp] theorem byt41 : byt Tryz.prog 41 = 8 := by kernel_rfl
@[simp] theorem zr41 : zr Tryz.prog 41 = .nilf := by kernel_rfl
@[simp] theorem td42 : td Tryz.prog 42 = .func := by kernel_rfl
@[simp] theorem sz42 : sz Tryz.prog 42 = 1 := by kernel_rfl
@[simp] theorem byt42 : byt Tryz.prog 42 = 8 := by kernel_rfl
@[simp] theorem zr42 : zr Tryz.prog 42 = .nilf := by kernel_rfl
@[simp] theorem td43 : td Tryz.prog 43 = .slice 82 := by kernel_rfl
@[simp] theorem sz43 : sz Tryz.prog 43 = 1 := by kernel_rfl
@[simp] theorem byt43 : byt Tryz.prog 43 = 24 := by kernel_rfl
@[simp] theorem zr43 : zr Tryz.prog 43 = .sl true 0 [] := by kernel_rfl
@[simp] theorem td44 : td Tryz.prog 44 = .array 4 43 := by kernel_rfl
@[simp] theorem sz44 : sz Tryz.prog 44 = 4 := by kernel_rfl
@[simp] theorem byt44 : byt Tryz.prog 44 = 96 := by kernel_rfl
@[simp] theorem zr44 : zr Tryz.prog 44 = .agg ([.sl true 0 [], .sl true 0 [], .sl true 0 [], .sl true 0 []]) := by kernel_rfl
@[simp] theorem td45 : td Tryz.prog 45 = .struct [(0, 44), (4, 31)] := by kernel_rfl
@[simp] theorem sz45 : sz Tryz.prog 45 = 5 := by kernel_rfl
@[simp] theorem byt45 : byt Tryz.prog 45 = 120 := by kernel_rfl
@[simp] theorem zr45 : zr Tryz.prog 45 = .agg ([.sl true 0 [], .sl true 0 [], .sl true 0 [], .sl true 0 [], .sl true 0 []]) := by kernel_rfl
@[simp] theorem td46 : td Tryz.prog 46 = .struct [(0, 44), (4, 31)] := by kernel_rfl
@[simp] theorem sz46 : sz Tryz.prog 46 = 5 := by kernel_rfl
@[simp] theorem byt46 : byt Tryz.prog 46 = 120 := by kernel_rfl
@[simp] theorem zr46 : zr Tryz.prog 46 = .agg ([.sl true 0 [], .sl true 0 [], .sl true 0 [], .sl true 0 [], .sl true 0 []]) := by kernel_rfl
@[simp] theorem td47 : td Tryz.prog 47 = .func := by kernel_rfl
@[simp] theorem sz47 : sz Tryz.prog 47 = 1 := by kernel_rfl
@[simp] theorem byt47 : byt Tryz.prog 47 = 8 := by kernel_rfl
@[simp] theorem zr47 : zr Tryz.prog 47 = .nilf := by kernel_rfl
@[simp] theorem td48 : td Tryz.prog 48 = .func := by kernel_rfl
@[simp] theorem sz48 : sz Tryz.prog 48 = 1 := by kernel_rfl
@[simp] theorem byt48 : byt Tryz.prog 48 = 8 := by kernel_rfl
@[simp] theorem zr48 : zr Tryz.prog 48 = .nilf := by kernel_rfl
@[simp] theorem td49 : td Tryz.prog 49 = .func := by kernel_rfl
@[simp] theorem sz49 : sz Tryz.prog 49 = 1 := by kernel_rfl
@[simp] theorem byt49 : byt Tryz.prog 49 = 8 := by kernel_rfl
@[simp] theorem zr49 : zr Tryz.prog 49 = .nilf := by kernel_rfl
@[simp] theorem td50 : td Tryz.prog 50 = .func := by kernel_rfl
@[simp] theorem sz50 : sz Tryz.prog 50 = 1 := by kernel_rfl
@[simp] theorem byt50 : byt Tryz.prog 50 = 8 := by kernel_rfl
@[simp] theorem zr50 : zr Tryz.prog 50 = .nilf := by kernel_rfl
@[simp] theorem td51 : td Tryz.prog 51 = .func := by kernel_rfl
@[simp] theorem sz51 : sz Tryz.prog 51 = 1 := by kernel_rfl
@[simp] theorem byt51 : byt Tryz.prog 51 = 8 := by kernel_rfl
@[simp] theorem zr51 : zr Tryz.prog 51 = .nilf := by kernel_rfl
@[simp] theorem td52 : td Tryz.prog 52 = .func := by kernel_rfl
@[simp] theorem sz52 : sz Tryz.prog 52 = 1 := by kernel_rfl
@[simp] theorem byt52 : byt Tryz.prog 52 = 8 := by kernel_rfl
@[simp] theorem zr52 : zr Tryz.prog 52 = .nilf := by kernel_rfl
@[simp] theorem td53 : td Tryz.prog 53 = .slice 98 := by kernel_rfl
@[simp] theorem sz53 : sz Tryz.prog 53 = 1 := by kernel_rfl
@[simp] theorem byt53 : byt Tryz.prog 53 = 24 := by kernel_rfl
@[simp] theorem zr53 : zr Tryz.prog 53 = .sl true 0 [] := by kernel_rfl
@[simp] theorem td54 : td Tryz.prog 54 = .struct [(0, 3), (1, 3), (2, 53)] := by kernel_rfl
@[simp] theorem sz54 : sz Tryz.prog 54 = 3 := by kernel_rfl
@[simp] theorem byt54 : byt Tryz.prog 54 = 40 := by kernel_rfl
@[simp] theorem zr54 : zr Tryz.prog 54 = .agg ([.int .i64 0, .int .i64 0, .sl true 0 []]) := by kernel_rfl
@[simp] theorem td55 : td Tryz.prog 55 = .struct [(0, 3), (1, 3), (2, 53)] := by kernel_rfl
@[simp] theorem sz55 : sz Tryz.prog 55 = 3 := by kernel_rfl
@[simp] theorem byt55 : byt Tryz.prog 55 = 40 := by kernel_rfl
@[simp] theorem zr55 : zr Tryz.prog 55 = .agg ([.int .i64 0, .int .i64 0, .sl true 0 []]) := by kernel_rfl
@[simp] theorem td56 : td Tryz.prog 56 = .func := by kernel_rfl
@[simp] theorem sz56 : sz Tryz.prog 56 = 1 := by kernel_rfl
@[simp] theorem byt56 : byt Tryz.prog 56 = 8 := by kernel_rfl
@[simp] theorem zr56 : zr Tryz.prog 56 = .nilf := by kernel_rfl
@[simp] theorem td58 : td Tryz.prog 58 = .func := by kernel_rfl
@[simp] theorem sz58 : sz Tryz.prog 58 = 1 := by kernel_rfl
@[simp] theorem byt58 : byt Tryz.prog 58 = 8 := by kernel_rfl
@[simp] theorem zr58 : zr Tryz.prog 58 = .nilf := by kernel_rfl
@[simp] theorem td59 : td Tryz.prog 59 = .other := by kernel_rfl
@[simp] theorem sz59 : sz Tryz.prog 59 = 1 := by kernel_rfl
@[simp] theorem byt59 : byt Tryz.prog 59 = 8 := by kernel_rfl
@[simp] theorem zr59 : zr Tryz.prog 59 = .junk := by kernel_rfl
@[simp] theorem td60 : td Tryz.prog 60 = .func := by kernel_rfl
@[simp] theorem sz60 : sz Tryz.prog 60 = 1 := by kernel_rfl
@[simp] theorem byt60 : byt Tryz.prog 60 = 8 := by kernel_rfl
@[simp] theorem zr60 : zr Tryz.prog 60 = .nilf := by kernel_rfl
@[simp] theorem td61 : td Tryz.prog 61 = .func := by kernel_rfl
@[simp] theorem sz61 : sz Tryz.prog 61 = 1 := by kernel_rfl
@[simp] theorem byt61 : byt Tryz.prog 61 = 8 := by kernel_rfl
@[simp] theorem zr61 : zr Tryz.prog 61 = .nilf := by kernel_rfl
@[simp] theorem td62 : td Tryz.prog 62 = .func := by kernel_rfl
@[simp] theorem sz62 : sz Tryz.prog 62 = 1 := by kernel_rfl
@[simp] theorem byt62 : byt Tryz.prog 62 = 8 := by kernel_rfl
@[simp] theorem zr62 : zr Tryz.prog 62 = .nilf := by kernel_rfl
@[simp] theorem td63 : td Tryz.prog 63 = .func := by kernel_rfl
@[simp] theorem sz63 : sz Tryz.prog 63 = 1 := by kernel_rfl
@[simp] theorem byt63 : byt Tryz.prog 63 = 8 := by kernel_rfl
@[simp] theorem zr63 : zr Tryz.prog 63 = .nilf := by kernel_rfl
@[simp] theorem td64 : td Tryz.prog 64 = .func := by kernel_rfl
@[simp] theorem sz64 : sz Tryz.prog 64 = 1 := by kernel_rfl
@[simp] theorem byt64 : byt Tryz.prog 64 = 8 := by kernel_rfl
@[simp] theorem zr64 : zr Tryz.prog 64 = .nilf := by kernel_rfl
@[simp] theorem td65 : td Tryz.prog 65 = .other := by kernel_rfl
@[simp] theorem sz65 : sz Tryz.prog 65 = 1 := by kernel_rfl
@[simp] theorem byt65 : byt Tryz.prog 65 = 8 := by kernel_rfl
@[simp] theorem zr65 : zr Tryz.prog 65 = .junk := by kernel_rfl
@[simp] theorem td66 : td Tryz.prog 66 = .struct [(0, 3), (1, 3)] := by kernel_rfl
@[simp] theorem sz66 : sz Tryz.prog 66 = 2 := by kernel_rfl
@[simp] theorem byt66 : byt Tryz.prog 66 = 16 := by kernel_rfl
@[simp] theorem zr66 : zr Tryz.prog 66 = .agg ([.int .i64 0, .int .i64 0]) := by kernel_rfl
@[simp] theorem fl66 : flatT Tryz.prog 66 = some ([false, false]) := by kernel_rfl
@[simp] theorem td67 : td Tryz.prog 67 = .struct [(0, 3), (1, 3)] := by kernel_rfl
@[simp] theorem sz67 : sz Tryz.prog 67 = 2 := by kernel_rfl
@[simp] theorem byt67 : byt Tryz.prog 67 = 16 := by kernel_rfl
@[simp] theorem zr67 : zr Tryz.prog 67 = .agg ([.int .i64 0, .int .i64 0]) := by kernel_rfl
@[simp] theorem fl67 : flatT Tryz.prog 67 = some ([false, false]) := by kernel_rfl
@[simp] theorem td68 : td Tryz.prog 68 = .slice 5 := by kernel_rfl
@[simp] theorem sz68 : sz Tryz.prog 68 = 1 := by kernel_rfl
@[simp] theorem byt68 : byt Tryz.prog 68 = 24 := by kernel_rfl
@[simp] theorem zr68 : zr Tryz.prog 68 = .sl true 0 [] := by kernel_rfl
@[simp] theorem td69 : td Tryz.prog 69 = .int .i64 := by kernel_rfl
@[simp] theorem sz69 : sz Tryz.prog 69 = 1 := by kernel_rfl
@[simp] theorem byt69 : byt Tryz.prog 69 = 8 := by kernel_rfl
@[simp] theorem zr69 : zr Tryz.prog 69 = .int .i64 0 := by kernel_rfl
@[simp] theorem td71 : td Tryz.prog 71 = .func := by kernel_rfl
@[simp] theorem sz71 : sz Tryz.prog 71 = 1 := by kernel_rfl
@[simp] theorem byt71 : byt Tryz.prog 71 = 8 := by kernel_rfl
@[simp] theorem zr71 : zr Tryz.prog 71 = .nilf := by kernel_rfl
@[simp] theorem td72 : td Tryz.prog 72 = .func := by kernel_rfl
@[simp] theorem sz72 : sz Tryz.prog 72 = 1 := by kernel_rfl
@[simp] theorem byt72 : byt Tryz.prog 72 = 8 := by kernel_rfl
@[simp] theorem zr72 : zr Tryz.prog 72 = .nilf := by kernel_rfl
@[simp] theorem td73 : td Tryz.prog 73 = .func := by kernel_rfl
@[simp] theorem sz73 : sz Tryz.prog 73 = 1 := by kernel_rfl
@[simp] theorem byt73 : byt Tryz.prog 73 = 8 := by kernel_rfl
@[simp] theorem zr73 : zr Tryz.prog 73 = .nilf := by kernel_rfl
@[simp] theorem td74 : td Tryz.prog 74 = .func := by kernel_rfl
@[simp] theorem sz74 : sz Tryz.prog 74 = 1 := by kernel_rfl
@[simp] theorem byt74 : byt Tryz.prog 74 = 8 := by kernel_rfl
@[simp] theorem zr74 : zr Tryz.prog 74 = .nilf := by kernel_rfl
@[simp] theorem td75 : td Tryz.prog 75 = .ptr 77 := by kernel_rfl
@[simp] theorem sz75 : sz Tryz.prog 75 = 1 := by kernel_rfl
@[simp] theorem byt75 : byt Tryz.prog 75 = 8 := by kernel_rfl
@[simp] theorem zr75 : zr Tryz.prog 75 = .nilp := by kernel_rfl
@[simp] theorem td76 : td Tryz.prog 76 = .struct [(0, 46)] := by kernel_rfl
@[simp] theorem sz76 : sz Tryz.prog 76 = 5 := by kernel_rfl
@[simp] theorem byt76 : byt Tryz.prog 76 = 120 := by kernel_rfl
@[simp] theorem zr76 : zr Tryz.prog 76 = .agg ([.sl true 0 [], .sl true 0 [], .sl true 0 [], .sl true 0 [], .sl true 0 []]) := by kernel_rfl
@[simp] theorem td77 : td Tryz.prog 77 = .struct [(0, 46)] := by kernel_rfl
@[simp] theorem sz77 : sz Tryz.prog 77 = 5 := by kernel_rfl
@[simp] theorem byt77 : byt Tryz.prog 77 = 120 := by kernel_rfl
@[simp] theorem zr77 : zr Tryz.prog 77 = .agg ([.sl true 0 [], .sl true 0 [], .sl true 0 [], .sl true 0 [], .sl true 0 []]) := by kernel_rfl
@[simp] theorem td78 : td Tryz.prog 78 = .int .u64 := by kernel_rfl
@[simp] theorem sz78 : sz Tryz.prog 78 = 1 := by kernel_rfl
@[simp] theorem byt78 : byt Tryz.prog 78 = 8 := by kernel_rfl
@[simp] theorem zr78 : zr Tryz.prog 78 = .int .u64 0 := by kernel_rfl
@[simp] theorem td79 : td Tryz.prog 79 = .slice 134 := by kernel_rfl
@[simp] theorem sz79 : sz Tryz.prog 79 = 1 := by kernel_rfl
@[simp] theorem byt79 : byt Tryz.prog 79 = 24 := by kernel_rfl
@[simp] theorem zr79 : zr Tryz.prog 79 = .sl true 0 [] := by kernel_rfl
@[simp] theorem td80 : td Tryz.prog 80 = .slice 126 := by kernel_rfl
@[simp] theorem sz80 : sz Tryz.prog 80 = 1 := by kernel_rfl
@[simp] theorem byt80 : byt Tryz.prog 80 = 24 := by kernel_rfl
@[simp] theorem zr80 : zr Tryz.prog 80 = .sl true 0 [] := by kernel_rfl
@[simp] theorem td81 : td Tryz.prog 81 = .struct [(0, 78), (1, 3), (2, 3), (3, 3), (4, 3), (5, 79), (6, 80)] := by kernel_rfl
@[simp] theorem sz81 : sz Tryz.prog 81 = 7 := by kernel_rfl
@[simp] theorem byt81 : byt Tryz.prog 81 = 88 := by kernel_rfl
@[simp] theorem zr81 : zr Tryz.prog 81 = .agg ([.int .u64 0, .int .i64 0, .int .i64 0, .int .i64 0, .int .i64 0, .sl true 0 [], .sl true 0 []]) := by kernel_rfl
@[simp] theorem td82 : td Tryz.prog 82 = .struct [(0, 78), (1, 3), (2, 3), (3, 3), (4, 3), (5, 79), (6, 80)] := by kernel_rfl
@[simp] theorem sz82 : sz Tryz.prog 82 = 7 := by kernel_rfl
@[simp] theorem byt82 : byt Tryz.prog 82 = 88 := by kernel_rfl
@[simp] theorem zr82 : zr Tryz.prog 82 = .agg ([.int .u64 0, .int .i64 0, .int .i64 0, .int .i64 0, .int .i64 0, .sl true 0 [], .sl true 0 []]) := by kernel_rfl
@[simp] theorem td83 : td Tryz.prog 83 = .func := by kernel_rfl
@[simp] theorem sz83 : sz Tryz.prog 83 = 1 := by kernel_rfl
@[simp] theorem byt83 : byt Tryz.prog 83 = 8 := by kernel_rfl
@[simp] theorem zr83 : zr Tryz.prog 83 = .nilf := by kernel_rfl
@[simp] theorem td84 : td Tryz.prog 84 = .struct [(0, 78), (1, 78), (2, 3), (3, 3), (4, 3), (5, 3), (6, 3), (7, 3), (8, 3), (9, 3), (10, 3), (11, 79), (12, 80)] := by kernel_rfl
@[simp] theorem sz84 : sz Tryz.prog 84 = 13 := by kernel_rfl
@[simp] theorem byt84 : byt Tryz.prog 84 = 136 := by kernel_rfl
@[simp] theorem zr84 : zr Tryz.prog 84 = .agg ([.int .u64 0, .int .u64 0, .int .i64 0, .int .i64 0, .int .i64 0, .int .i64 0, .int .i64 0, .int .i64 0, .int .i64 0, .int .i64 0, .int .i64 0, .sl true 0 [], .sl true 0 []]) := by kernel_rfl
@[simp] theorem td85 : td Tryz.prog 85 = .struct [(0, 78), (1, 78), (2, 3), (3, 3), (4, 3), (5, 3), (6, 3), (7, 3), (8, 3), (9, 3), (10, 3), (11, 79), (12, 80)] := by kernel_rfl
@[simp] theorem sz85 : sz Tryz.prog 85 = 13 := by kernel_rfl
@[simp] theorem byt85 : byt Tryz.prog 85 = 136 := by kernel_rfl
@[simp] theorem zr85 : zr Tryz.prog 85 = .agg ([.int .u64 0, .int .u64 0, .int .i64 0, .int .i64 0, .int .i64 0, .int .i64 0, .int .i64 0, .int .i64 0, .int .i64 0, .int .i64 0, .int .i64 0, .sl true 0 [], .sl true 0 []]) := by kernel_rfl
@[simp] theorem td86 : td Tryz.prog 86 = .func := by kernel_rfl
@[simp] theorem sz86 : sz Tryz.prog 86 = 1 := by kernel_rfl
@[simp] theorem byt86 : byt Tryz.prog 86 = 8 := by kernel_rfl
@[simp] theorem zr86 : zr Tryz.prog 86 = .nilf := by kernel_rfl
@[simp] theorem td87 : td Tryz.prog 87 = .iface false := by kernel_rfl
@[simp] theorem sz87 : sz Tryz.prog 87 = 1 := by kernel_rfl
@[simp] theorem byt87 : byt Tryz.prog 87 = 16 := by kernel_rfl
@[simp] theorem zr87 : zr Tryz.prog 87 = .niface := by kernel_rfl
@[simp] theorem td88 : td Tryz.prog 88 = .iface false := by kernel_rfl
@[simp] theorem sz88 : sz Tryz.prog 88 = 1 := by kernel_rfl
@[simp] theorem byt88 : byt Tryz.prog 88 = 16 := by kernel_rfl
@[simp] theorem zr88 : zr Tryz.prog 88 = .niface := by kernel_rfl
@[simp] theorem td89 : td Tryz.prog 89 = .func := by kernel_rfl
@[simp] theorem sz89 : sz Tryz.prog 89 = 1 := by kernel_rfl
@[simp] theorem byt89 : byt Tryz.prog 89 = 8 := by kernel_rfl
@[simp] theorem zr89 : zr Tryz.prog 89 = .nilf := by kernel_rfl
@[simp] theorem td90 : td Tryz.prog 90 = .func := by kernel_rfl
@[simp] theorem sz90 : sz Tryz.prog 90 = 1 := by kernel_rfl
@[simp] theorem byt90 : byt Tryz.prog 90 = 8 := by kernel_rfl
@[simp] theorem zr90 : zr Tryz.prog 90 = .nilf := by kernel_rfl
@[simp] theorem td91 : td Tryz.prog 91 = .func := by kernel_rfl
@[simp] theorem sz91 : sz Tryz.prog 91 = 1 := by kernel_rfl
@[simp] theorem byt91 : byt Tryz.prog 91 = 8 := by kernel_rfl
@[simp] theorem zr91 : zr Tryz.prog 91 = .nilf := by kernel_rfl
@[simp] theorem td92 : td Tryz.prog 92 = .func := by kernel_rfl
@[simp] theorem sz92 : sz Tryz.prog 92 = 1 := by kernel_rfl
@[simp] theorem byt92 : byt Tryz.prog 92 = 8 := by kernel_rfl
@[simp] theorem zr92 : zr Tryz.prog 92 = .nilf := by kernel_rfl
@[simp] theorem td93 : td Tryz.prog 93 = .struct [(0, 4), (1, 3), (2, 3)] := by kernel_rfl
@[simp] theorem sz93 : sz Tryz.prog 93 = 3 := by kernel_rfl
@[simp] theorem byt93 : byt Tryz.prog 93 = 24 := by kernel_rfl
@[simp] theorem zr93 : zr Tryz.prog 93 = .agg ([.bool false, .int .i64 0, .int .i64 0]) := by kernel_rfl
@[simp] theorem fl93 : flatT Tryz.prog 93 = some ([true, false, false]) := by kernel_rfl
@[simp] theorem td94 : td Tryz.prog 94 = .struct [(0, 4), (1, 3), (2, 3)] := by kernel_rfl
@[simp] theorem sz94 : sz Tryz.prog 94 = 3 := by kernel_rfl
@[simp] theorem byt94 : byt Tryz.prog 94 = 24 := by kernel_rfl
@[simp] theorem zr94 : zr Tryz.prog 94 = .agg ([.bool false, .int .i64 0, .int .i64 0]) := by kernel_rfl
@[simp] theorem fl94 : flatT Tryz.prog 94 = some ([true, false, false]) := by kernel_rfl
@[simp] theorem td95 : td Tryz.prog 95 = .func := by kernel_rfl
@[simp] theorem sz95 : sz Tryz.prog 95 = 1 := by kernel_rfl
@[simp] theorem byt95 : byt Tryz.prog 95 = 8 := by kernel_rfl
@[simp] theorem zr95 : zr Tryz.prog 95 = .nilf := by kernel_rfl
@[simp] theorem td96 : td Tryz.prog 96 = .slice 136 := by kernel_rfl
@[simp] theorem sz96 : sz Tryz.prog 96 = 1 := by kernel_rfl
@[simp] theorem byt96 : byt Tryz.prog 96 = 24 := by kernel_rfl
@[simp] theorem zr96 : zr Tryz.prog 96 = .sl true 0 [] := by kernel_rfl
@[simp] theorem td97 : td Tryz.prog 97 = .struct [(0, 3), (1, 3), (2, 3), (3, 96)] := by kernel_rfl
@[simp] theorem sz97 : sz Tryz.prog 97 = 4 := by kernel_rfl
@[simp] theorem byt97 : byt Tryz.prog 97 = 48 := by kernel_rfl
@[simp] theorem zr97 : zr Tryz.prog 97 = .agg ([.int .i64 0, .int .i64 0, .int .i64 0, .sl true 0 []]) := by kernel_rfl
@[simp] theorem td98 : td Tryz.prog 98 = .struct [(0, 3), (1, 3), (2, 3), (3, 96)] := by kernel_rfl
@[simp] theorem sz98 : sz Tryz.prog 98 = 4 := by kernel_rfl
@[simp] theorem byt98 : byt Tryz.prog 98 = 48 := by kernel_rfl
@[simp] theorem zr98 : zr Tryz.prog 98 = .agg ([.int .i64 0, .int .i64 0, .int .i64 0, .sl true 0 []]) := by kernel_rfl
@[simp] theorem td99 : td Tryz.prog 99 = .func := by kernel_rfl
@[simp] theorem sz99 : sz Tryz.prog 99 = 1 := by kernel_rfl
@[simp] theorem byt99 : byt Tryz.prog 99 = 8 := by kernel_rfl
@[simp] theorem zr99 : zr Tryz.prog 99 = .nilf := by kernel_rfl
@[simp] theorem td100 : td Tryz.prog 100 = .func := by kernel_rfl
@[simp] theorem sz100 : sz Tryz.prog 100 = 1 := by kernel_rfl
@[simp] theorem byt100 : byt Tryz.prog 100 = 8 := by kernel_rfl
@[simp] theorem zr100 : zr Tryz.prog 100 = .nilf := by kernel_rfl
@[simp] theorem td101 : td Tryz.prog 101 = .func := by kernel_rfl
@[simp] theorem sz101 : sz Tryz.prog 101 = 1 := by kernel_rfl
@[simp] theorem byt101 : byt Tryz.prog 101 = 8 := by kernel_rfl
@[simp] theorem zr101 : zr Tryz.prog 101 = .nilf := by kernel_rfl
@[simp] theorem td102 : td Tryz.prog 102 = .func := by kernel_rfl
@[simp] theorem sz102 : sz Tryz.prog 102 = 1 := by kernel_rfl
@[simp] theorem byt102 : byt Tryz.prog 102 = 8 := by kernel_rfl
@[simp] theorem zr102 : zr Tryz.prog 102 = .nilf := by kernel_rfl
@[simp] theorem td103 : td Tryz.prog 103 = .func := by kernel_rfl
@[simp] theorem sz103 : sz Tryz.prog 103 = 1 := by kernel_rfl
@[simp] theorem byt103 : byt Tryz.prog 103 = 8 := by kernel_rfl
@[simp] theorem zr103 : zr Tryz.prog 103 = .nilf := by kernel_rfl
@[simp] theorem td104 : td Tryz.prog 104 = .int .u64 := by kernel_rfl
@[simp] theorem sz104 : sz Tryz.prog 104 = 1 := by kernel_rfl
@[simp] theorem byt104 : byt Tryz.prog 104 = 8 := by kernel_rfl
@[simp] theorem zr104 : zr Tryz.prog 104 = .int .u64 0 := by kernel_rfl
@[simp] theorem td105 : td Tryz.prog 105 = .func := by kernel_rfl
@[simp] theorem sz105 : sz Tryz.prog 105 = 1 := by kernel_rfl
@[simp] theorem byt105 : byt Tryz.prog 105 = 8 := by kernel_rfl
@[simp] theorem zr105 : zr Tryz.prog 105 = .nilf := by kernel_rfl
@[simp] theorem td106 : td Tryz.prog 106 = .func := by kernel_rfl
@[simp] theorem sz106 : sz Tryz.prog 106 = 1 := by kernel_rfl
@[simp] theorem byt106 : byt Tryz.prog 106 = 8 := by kernel_rfl
@[simp] theorem zr106 : zr Tryz.prog 106 = .nilf := by kernel_rfl
@[simp] theorem td107 : td Tryz.prog 107 = .func := by kernel_rfl
@[simp] theorem sz107 : sz Tryz.prog 107 = 1 := by kernel_rfl
@[simp] theorem byt107 : byt Tryz.prog 107 = 8 := by kernel_rfl
@[simp] theorem zr107 : zr Tryz.prog 107 = .nilf := by kernel_rfl
@[simp] theorem td108 : td Tryz.prog 108 = .func := by kernel_rfl
@[simp] theorem sz108 : sz Tryz.prog 108 = 1 := by kernel_rfl
@[simp] theorem byt108 : byt Tryz.prog 108 = 8 := by kernel_rfl
@[simp] theorem zr108 : zr Tryz.prog 108 = .nilf := by kernel_rfl
@[simp] theorem td109 : td Tryz.prog 109 = .func := by kernel_rfl
@[simp] theorem sz109 : sz Tryz.prog 109 = 1 := by kernel_rfl
@[simp] theorem byt109 : byt Tryz.prog 109 = 8 := by kernel_rfl
@[simp] theorem zr109 : zr Tryz.prog 109 = .nilf := by kernel_rfl
@[simp] theorem td110 : td Tryz.prog 110 = .func := by kernel_rfl
@[simp] theorem sz110 : sz Tryz.prog 110 = 1 := by kernel_rfl
@[simp] theorem byt110 : byt Tryz.prog 110 = 8 := by kernel_rfl
@[simp] theorem zr110 : zr Tryz.prog 110 = .nilf := by kernel_rfl
@[simp] theorem td111 : td Tryz.prog 111 = .func := by kernel_rfl
@[simp] theorem sz111 : sz Tryz.prog 111 = 1 := by kernel_rfl
@[simp] theorem byt111 : byt Tryz.prog 111 = 8 := by kernel_rfl
@[simp] theorem zr111 : zr Tryz.prog 111 = .nilf := by kernel_rfl
@[simp] theorem td112 : td Tryz.prog 112 = .func := by kernel_rfl
@[simp] theorem sz112 : sz Tryz.prog 112 = 1 := by kernel_rfl
@[simp] theorem byt112 : byt Tryz.prog 112 = 8 := by kernel_rfl
@[simp] theorem zr112 : zr Tryz.prog 112 = .nilf := by kernel_rfl
@[simp] theorem td113 : td Tryz.prog 113 = .ptr 115 := by kernel_rfl
@[simp] theorem sz113 : sz Tryz.prog 113 = 1 := by kernel_rfl
@[simp] theorem byt113 : byt Tryz.prog 113 = 8 := by kernel_rfl
@[simp] theorem zr113 : zr Tryz.prog 113 = .nilp := by kernel_rfl
@[simp] theorem td114 : td Tryz.prog 114 = .struct [(0, 85)] := by kernel_rfl
@[simp] theorem sz114 : sz Tryz.prog 114 = 13 := by kernel_rfl
@[simp] theorem byt114 : byt Tryz.prog 114 = 136 := by kernel_rfl
@[simp] theorem zr114 : zr Tryz.prog 114 = .agg ([.int .u64 0, .int .u64 0, .int .i64 0, .int .i64 0, .int .i64 0, .int .i64 0, .int .i64 0, .int .i64 0, .int .i64 0, .int .i64 0, .int .i64 0, .sl true 0 [], .sl true 0 []]) := by kernel_rfl
@[simp] theorem td115 : td Tryz.prog 115 = .struct [(0, 85)] := by kernel_rfl
@[simp] theorem sz115 : sz Tryz.prog 115 = 13 := by kernel_rfl
@[simp] theorem byt115 : byt Tryz.prog 115 = 136 := by kernel_rfl
@[simp] theorem zr115 : zr Tryz.prog 115 = .agg ([.int .u64 0, .int .u64 0, .int .i64 0, .int .i64 0, .int .i64 0, .int .i64 0, .int .i64 0, .int .i64 0, .int .i64 0, .int .i64 0, .int .i64 0, .sl true 0 [], .sl true 0 []]) := by kernel_rfl
@[simp] theorem td116 : td Tryz.prog 116 = .array 9 3 := by kernel_rfl
@[simp] theorem sz116 : sz Tryz.prog 116 = 9 := by kernel_rfl
@[simp] theorem byt116 : byt Tryz.prog 116 = 72 := by kernel_rfl
@[simp] theorem zr116 : zr Tryz.prog 116 = .agg ([.int .i64 0, .int .i64 0, .int .i64 0, .int .i64 0, .int .i64 0, .int .i64 0, .int .i64 0, .int .i64 0, .int .i64 0]) := by kernel_rfl
@[simp] theorem fl116 : flatT Tryz.prog 116 = some ([false, false, false, false, false, false, false, false, false]) := by kernel_rfl
@[simp] theorem td117 : td Tryz.prog 117 = .func := by kernel_rfl
@[simp] theorem sz117 : sz Tryz.prog 117 = 1 := by kernel_rfl
@[simp] theorem byt117 : byt Tryz.prog 117 = 8 := by kernel_rfl
@[simp] theorem zr117 : zr Tryz.prog 117 = .nilf := by kernel_rfl
@[simp] theorem td118 : td Tryz.prog 118 = .func := by kernel_rfl
@[simp] theorem sz118 : sz Tryz.prog 118 = 1 := by kernel_rfl
@[simp] theorem byt118 : byt Tryz.prog 118 = 8 := by kernel_rfl
@[simp] theorem zr118 : zr Tryz.prog 118 = .nilf := by kernel_rfl
@[simp] theorem td119 : td Tryz.prog 119 = .func := by kernel_rfl
@[simp] theorem sz119 : sz Tryz.prog 119 = 1 := by kernel_rfl
@[simp] theorem byt119 : byt Tryz.prog 119 = 8 := by kernel_rfl
@[simp] theorem zr119 : zr Tryz.prog 119 = .nilf := by kernel_rfl
@[simp] theorem td120 : td Tryz.prog 120 = .func := by kernel_rfl
@[simp] theorem sz120 : sz Tryz.prog 120 = 1 := by kernel_rfl
@[simp] theorem byt120 : byt Tryz.prog 120 = 8 := by kernel_rfl
@[simp] theorem zr120 : zr Tryz.prog 120 = .nilf := by kernel_rfl
@[simp] theorem td121 : td Tryz.prog 121 = .func := by kernel_rfl
@[simp] theorem sz121 : sz Tryz.prog 121 = 1 := by kernel_rfl
@[simp] theorem byt121 : byt Tryz.prog 121 = 8 := by kernel_rfl
@[simp] theorem zr121 : zr Tryz.prog 121 = .nilf := by kernel_rfl
@[simp] theorem td122 : td Tryz.prog 122 = .func := by kernel_rfl
@[simp] theorem sz122 : sz Tryz.prog 122 = 1 := by kernel_rfl
@[simp] theorem byt122 : byt Tryz.prog 122 = 8 := by kernel_rfl
@[simp] theorem zr122 : zr Tryz.prog 122 = .nilf := by kernel_rfl
@[simp] theorem td123 : td Tryz.prog 123 = .struct [(0, 78), (1, 78)] := by kernel_rfl
@[simp] theorem sz123 : sz Tryz.prog 123 = 2 := by kernel_rfl
@[simp] theorem byt123 : byt Tryz.prog 123 = 16 := by kernel_rfl
@[simp] theorem zr123 : zr Tryz.prog 123 = .agg ([.int .u64 0, .int .u64 0]) := by kernel_rfl
@[simp] theorem fl123 : flatT Tryz.prog 123 = some ([false, false]) := by kernel_rfl
@[simp] theorem td124 : td Tryz.prog 124 = .struct [(0, 78), (1, 78)] := by kernel_rfl
@[simp] theorem sz124 : sz Tryz.prog 124 = 2 := by kernel_rfl
@[simp] theorem byt124 : byt Tryz.prog 124 = 16 := by kernel_rfl
@[simp] theorem zr124 : zr Tryz.prog 124 = .agg ([.int .u64 0, .int .u64 0]) := by kernel_rfl
@[simp] theorem fl124 : flatT Tryz.prog 124 = some ([false, false]) := by kernel_rfl
@[simp] theorem td125 : td Tryz.prog 125 = .struct [(0, 3), (1, 3), (2, 124), (4, 124), (6, 96)] := by kernel_rfl
@[simp] theorem sz125 : sz Tryz.prog 125 = 7 := by kernel_rfl
@[simp] theorem byt125 : byt Tryz.prog 125 = 72 := by kernel_rfl
@[simp] theorem zr125 : zr Tryz.prog 125 = .agg ([.int .i64 0, .int .i64 0, .int .u64 0, .int .u64 0, .int .u64 0, .int .u64 0, .sl true 0 []]) := by kernel_rfl
@[simp] theorem td126 : td Tryz.prog 126 = .struct [(0, 3), (1, 3), (2, 124), (4, 124), (6, 96)] := by kernel_rfl
@[simp] theorem sz126 : sz Tryz.prog 126 = 7 := by kernel_rfl
@[simp] theorem byt126 : byt Tryz.prog 126 = 72 := by kernel_rfl
@[simp] theorem zr126 : zr Tryz.prog 126 = .agg ([.int .i64 0, .int .i64 0, .int .u64 0, .int .u64 0, .int .u64 0, .int .u64 0, .sl true 0 []]) := by kernel_rfl
@[simp] theorem td127 : td Tryz.prog 127 = .func := by kernel_rfl
@[simp] theorem sz127 : sz Tryz.prog 127 = 1 := by kernel_rfl
@[simp] theorem byt127 : byt Tryz.prog 127 = 8 := by kernel_rfl
@[simp] theorem zr127 : zr Tryz.prog 127 = .nilf := by kernel_rfl
@[simp] theorem td128 : td Tryz.prog 128 = .func := by kernel_rfl
@[simp] theorem sz128 : sz Tryz.prog 128 = 1 := by kernel_rfl
@[simp] theorem byt128 : byt Tryz.prog 128 = 8 := by kernel_rfl
@[simp] theorem zr128 : zr Tryz.prog 128 = .nilf := by kernel_rfl
@[simp] theorem td129 : td Tryz.prog 129 = .func := by kernel_rfl
@[simp] theorem sz129 : sz Tryz.prog 129 = 1 := by kernel_rfl
@[simp] theorem byt129 : byt Tryz.prog 129 = 8 := by kernel_rfl
@[simp] theorem zr129 : zr Tryz.prog 129 = .nilf := by kernel_rfl
@[simp] theorem td130 : td Tryz.prog 130 = .func := by kernel_rfl
@[simp] theorem sz130 : sz Tryz.prog 130 = 1 := by kernel_rfl
@[simp] theorem byt130 : byt Tryz.prog 130 = 8 := by kernel_rfl
@[simp] theorem zr130 : zr Tryz.prog 130 = .nilf := by kernel_rfl
@[simp] theorem td131 : td Tryz.prog 131 = .func := by kernel_rfl
@[simp] theorem sz131 : sz Tryz.prog 131 = 1 := by kernel_rfl
@[simp] theorem byt131 : byt Tryz.prog 131 = 8 := by kernel_rfl
@[simp] theorem zr131 : zr Tryz.prog 131 = .nilf := by kernel_rfl
@[simp] theorem td132 : td Tryz.prog 132 = .func := by kernel_rfl
@[simp] theorem sz132 : sz Tryz.prog 132 = 1 := by kernel_rfl
@[simp] theorem byt132 : byt Tryz.prog 132 = 8 := by kernel_rfl
@[simp] theorem zr132 : zr Tryz.prog 132 = .nilf := by kernel_rfl
@[simp] theorem td133 : td Tryz.prog 133 = .struct [(0, 3), (1, 4), (2, 124), (4, 124)] := by kernel_rfl
@[simp] theorem sz133 : sz Tryz.prog 133 = 6 := by kernel_rfl
@[simp] theorem byt133 : byt Tryz.prog 133 = 48 := by kernel_rfl
@[simp] theorem zr133 : zr Tryz.prog 133 = .agg ([.int .i64 0, .bool false, .int .u64 0, .int .u64 0, .int .u64 0, .int .u64 0]) := by kernel_rfl
@[simp] theorem fl133 : flatT Tryz.prog 133 = some ([false, true, false, false, false, false]) := by kernel_rfl
@[simp] theorem td134 : td Tryz.prog 134 = .struct [(0, 3), (1, 4), (2, 124), (4, 124)] := by kernel_rfl
@[simp] theorem sz134 : sz Tryz.prog 134 = 6 := by kernel_rfl
@[simp] theorem byt134 : byt Tryz.prog 134 = 48 := by kernel_rfl
@[simp] theorem zr134 : zr Tryz.prog 134 = .agg ([.int .i64 0, .bool false, .int .u64 0, .int .u64 0, .int .u64 0, .int .u64 0]) := by kernel_rfl
@[simp] theorem fl134 : flatT Tryz.prog 134 = some ([false, true, false, false, false, false]) := by kernel_rfl
@[simp] theorem td135 : td Tryz.prog 135 = .struct [(0, 3), (1, 3), (2, 3), (3, 3), (4, 3), (5, 134)] := by kernel_rfl
@[simp] theorem sz135 : sz Tryz.prog 135 = 11 := by kernel_rfl
@[simp] theorem byt135 : byt Tryz.prog 135 = 88 := by kernel_rfl
@[simp] theorem zr135 : zr Tryz.prog 135 = .agg ([.int .i64 0, .int .i64 0, .int .i64 0, .int .i64 0, .int .i64 0, .int .i64 0, .bool false, .int .u64 0, .int .u64 0, .int .u64 0, .int .u64 0]) := by kernel_rfl
@[simp] theorem fl135 : flatT Tryz.prog 135 = some ([false, false, false, false, false, false, true, false, false, false, false]) := by kernel_rfl
@[simp] theorem td136 : td Tryz.prog 136 = .struct [(0, 3), (1, 3), (2, 3), (3, 3), (4, 3), (5, 134)] := by kernel_rfl
@[simp] theorem sz136 : sz Tryz.prog 136 = 11 := by kernel_rfl
@[simp] theorem byt136 : byt Tryz.prog 136 = 88 := by kernel_rfl
@[simp] theorem zr136 : zr Tryz.prog 136 = .agg ([.int .i64 0, .int .i64 0, .int .i64 0, .int .i64 0, .int .i64 0, .int .i64 0, .bool false, .int .u64 0, .int .u64 0, .int .u64 0, .int .u64 0]) := by kernel_rfl
@[simp] theorem fl136 : flatT Tryz.prog 136 = some ([false, false, false, false, false, false, true, false, false, false, false]) := by kernel_rfl
@[simp] theorem td137 : td Tryz.prog 137 = .func := by kernel_rfl
@[simp] theorem sz137 : sz Tryz.prog 137 = 1 := by kernel_rfl
@[simp] theorem byt137 : byt Tryz.prog 137 = 8 := by kernel_rfl
@[simp] theorem zr137 : zr Tryz.prog 137 = .nilf := by kernel_rfl
@[simp] theorem td138 : td Tryz.prog 138 = .func := by kernel_rfl
@[simp] theorem sz138 : sz Tryz.prog 138 = 1 := by kernel_rfl
@[simp] theorem byt138 : byt Tryz.prog 138 = 8 := by kernel_rfl
@[simp] theorem zr138 : zr Tryz.prog 138 = .nilf := by kernel_rfl
@[simp] theorem td139 : td Tryz.prog 139 = .int .i64 := by kernel_rfl
@[simp] theorem sz139 : sz Tryz.prog 139 = 1 := by kernel_rfl
@[simp] theorem byt139 : byt Tryz.prog 139 = 8 := by kernel_rfl
@[simp] theorem zr139 : zr Tryz.prog 139 = .int .i64 0 := by kernel_rfl
@[simp] theorem td141 : td Tryz.prog 141 = .func := by kernel_rfl
@[simp] theorem sz141 : sz Tryz.prog 141 = 1 := by kernel_rfl
@[simp] theorem byt141 : byt Tryz.prog 141 = 8 := by kernel_rfl
@[simp] theorem zr141 : zr Tryz.prog 141 = .nilf := by kernel_rfl
@[simp] theorem td142 : td Tryz.prog 142 = .func := by kernel_rfl
@[simp] theorem sz142 : sz Tryz.prog 142 = 1 := by kernel_rfl
@[simp] theorem byt142 : byt Tryz.prog 142 = 8 := by kernel_rfl
@[simp] theorem zr142 : zr Tryz.prog 142 = .nilf := by kernel_rfl
@[simp] theorem td143 : td Tryz.prog 143 = .func := by kernel_rfl
@[simp] theorem sz143 : sz Tryz.prog 143 = 1 := by kernel_rfl
@[simp] theorem byt143 : byt Tryz.prog 143 = 8 := by kernel_rfl
@[simp] theorem zr143 : zr Tryz.prog 143 = .nilf := by kernel_rfl
@[simp] theorem td145 : td Tryz.prog 145 = .func := by kernel_rfl
@[simp] theorem sz145 : sz Tryz.prog 145 = 1 := by kernel_rfl
@[simp] theorem byt145 : byt Tryz.prog 145 = 8 := by kernel_rfl
@[simp] theorem zr145 : zr Tryz.prog 145 = .nilf := by kernel_rfl
@[simp] theorem td146 : td Tryz.prog 146 = .func := by kernel_rfl
@[simp] theorem sz146 : sz Tryz.prog 146 = 1 := by kernel_rfl
@[simp] theorem byt146 : byt Tryz.prog 146 = 8 := by kernel_rfl
@[simp] theorem zr146 : zr Tryz.prog 146 = .nilf := by kernel_rfl
@[simp] theorem td147 : td Tryz.prog 147 = .int .u32 := by kernel_rfl
@[simp] theorem sz147 : sz Tryz.prog 147 = 1 := by kernel_rfl
@[simp] theorem byt147 : byt Tryz.prog 147 = 4 := by kernel_rfl
@[simp] theorem zr147 : zr Tryz.prog 147 = .int .u32 0 := by kernel_rfl
@[simp] theorem td148 : td Tryz.prog 148 = .func := by kernel_rfl
@[simp] theorem sz148 : sz Tryz.prog 148 = 1 := by kernel_rfl
@[simp] theorem byt148 : byt Tryz.prog 148 = 8 := by kernel_rfl
@[simp] theorem zr148 : zr Tryz.prog 148 = .nilf := by kernel_rfl
@[simp] theorem td149 : td Tryz.prog 149 = .func := by kernel_rfl
@[simp] theorem sz149 : sz Tryz.prog 149 = 1 := by kernel_rfl
@[simp] theorem byt149 : byt Tryz.prog 149 = 8 := by kernel_rfl
@[simp] theorem zr149 : zr Tryz.prog 149 = .nilf := by kernel_rfl
@[simp] theorem td150 : td Tryz.prog 150 = .func := by kernel_rfl
@[simp] theorem sz150 : sz Tryz.prog 150 = 1 := by kernel_rfl
@[simp] theorem byt150 : byt Tryz.prog 150 = 8 := by kernel_rfl
@[simp] theorem zr150 : zr Tryz.prog 150 = .nilf := by kernel_rfl
@[simp] theorem td151 : td Tryz.prog 151 = .func := by kernel_rfl
@[simp] theorem sz151 : sz Tryz.prog 151 = 1 := by kernel_rfl
@[simp] theorem byt151 : byt Tryz.prog 151 = 8 := by kernel_rfl
@[simp] theorem zr151 : zr Tryz.prog 151 = .nilf := by kernel_rfl
@[simp] theorem td152 : td Tryz.prog 152 = .func := by kernel_rfl
@[simp] theorem sz152 : sz Tryz.prog 152 = 1 := by kernel_rfl
@[simp] theorem byt152 : byt Tryz.prog 152 = 8 := by kernel_rfl
@[simp] theorem zr152 : zr Tryz.prog 152 = .nilf := by kernel_rfl
@[simp] theorem td153 : td Tryz.prog 153 = .array 4 5 := by kernel_rfl
@[simp] theorem sz153 : sz Tryz.prog 153 = 4 := by kernel_rfl
@[simp] theorem byt153 : byt Tryz.prog 153 = 4 := by kernel_rfl
@[simp] theorem zr153 : zr Tryz.prog 153 = .agg ([.int .u8 0, .int .u8 0, .int .u8 0, .int .u8 0]) := by kernel_rfl
@[simp] theorem fl153 : flatT Tryz.prog 153 = some ([false, false, false, false]) := by kernel_rfl
@[simp] theorem td154 : td Tryz.prog 154 = .ptr 156 := by kernel_rfl
@[simp] theorem sz154 : sz Tryz.prog 154 = 1 := by kernel_rfl
@[simp] theorem byt154 : byt Tryz.prog 154 = 8 := by kernel_rfl
@[simp] theorem zr154 : zr Tryz.prog 154 = .nilp := by kernel_rfl
@[simp] theorem td155 : td Tryz.prog 155 = .struct [(0, 31), (1, 59)] := by kernel_rfl
@[simp] theorem sz155 : sz Tryz.prog 155 = 2 := by kernel_rfl
@[simp] theorem byt155 : byt Tryz.prog 155 = 32 := by kernel_rfl
@[simp] theorem zr155 : zr Tryz.prog 155 = .agg ([.sl true 0 [], .junk]) := by kernel_rfl
@[simp] theorem td156 : td Tryz.prog 156 = .struct [(0, 31), (1, 59)] := by kernel_rfl
@[simp] theorem sz156 : sz Tryz.prog 156 = 2 := by kernel_rfl
@[simp] theorem byt156 : byt Tryz.prog 156 = 32 := by kernel_rfl
@[simp] theorem zr156 : zr Tryz.prog 156 = .agg ([.sl true 0 [], .junk]) := by kernel_rfl
@[simp] theorem td157 : td Tryz.prog 157 = .func := by kernel_rfl
@[simp] theorem sz157 : sz Tryz.prog 157 = 1 := by kernel_rfl
@[simp] theorem byt157 : byt Tryz.prog 157 = 8 := by kernel_rfl
@[simp] theorem zr157 : zr Tryz.prog 157 = .nilf := by kernel_rfl
@[simp] theorem td158 : td Tryz.prog 158 = .func := by kernel_rfl
@[simp] theorem sz158 : sz Tryz.prog 158 = 1 := by kernel_rfl
@[simp] theorem byt158 : byt Tryz.prog 158 = 8 := by kernel_rfl
@[simp] theorem zr158 : zr Tryz.prog 158 = .nilf := by kernel_rfl
@[simp] theorem td160 : td Tryz.prog 160 = .func := by kernel_rfl
@[simp] theorem sz160 : sz Tryz.prog 160 = 1 := by kernel_rfl
@[simp] theorem byt160 : byt Tryz.prog 160 = 8 := by kernel_rfl
@[simp] theorem zr160 : zr Tryz.prog 160 = .nilf := by kernel_rfl
@[simp] theorem td161 : td Tryz.prog 161 = .func := by kernel_rfl
@[simp] theorem sz161 : sz Tryz.prog 161 = 1 := by kernel_rfl
@[simp] theorem byt161 : byt Tryz.prog 161 = 8 := by kernel_rfl
@[simp] theorem zr161 : zr Tryz.prog 161 = .nilf := by kernel_rfl
@[simp] theorem td162 : td Tryz.prog 162 = .func := by kernel_rfl
@[simp] theorem sz162 : sz Tryz.prog 162 = 1 := by kernel_rfl
@[simp] theorem byt162 : byt Tryz.prog 162 = 8 := by kernel_rfl
@[simp] theorem zr162 : zr Tryz.prog 162 = .nilf := by kernel_rfl
@[simp] theorem td163 : td Tryz.prog 163 = .func := by kernel_rfl
@[simp] theorem sz163 : sz Tryz.prog 163 = 1 := by kernel_rfl
@[simp] theorem byt163 : byt Tryz.prog 163 = 8 := by kernel_rfl
@[simp] theorem zr163 : zr Tryz.prog 163 = .nilf := by kernel_rfl
@[simp] theorem td164 : td Tryz.prog 164 = .func := by kernel_rfl
@[simp] theorem sz164 : sz Tryz.prog 164 = 1 := by kernel_rfl
@[simp] theorem byt164 : byt Tryz.prog 164 = 8 := by kernel_rfl
@[simp] theorem zr164 : zr Tryz.prog 164 = .nilf := by kernel_rfl
@[simp] theorem td165 : td Tryz.prog 165 = .func := by kernel_rfl
@[simp] theorem sz165 : sz Tryz.prog 165 = 1 := by kernel_rfl
@[simp] theorem byt165 : byt Tryz.prog 165 = 8 := by kernel_rfl
@[simp] theorem zr165 : zr Tryz.prog 165 = .nilf := by kernel_rfl
@[simp] theorem td166 : td Tryz.prog 166 = .func := by kernel_rfl
@[simp] theorem sz166 : sz Tryz.prog 166 = 1 := by kernel_rfl
@[simp] theorem byt166 : byt Tryz.prog 166 = 8 := by kernel_rfl
@[simp] theorem zr166 : zr Tryz.prog 166 = .nilf := by kernel_rfl
@[simp] theorem td167 : td Tryz.prog 167 = .func := by kernel_rfl
@[simp] theorem sz167 : sz Tryz.prog 167 = 1 := by kernel_rfl
@[simp] theorem byt167 : byt Tryz.prog 167 = 8 := by kernel_rfl
@[simp] theorem zr167 : zr Tryz.prog 167 = .nilf := by kernel_rfl
@[simp] theorem td168 : td Tryz.prog 168 = .func := by kernel_rfl
@[simp] theorem sz168 : sz Tryz.prog 168 = 1 := by kernel_rfl
@[simp] theorem byt168 : byt Tryz.prog 168 = 8 := by kernel_rfl
@[simp] theorem zr168 : zr Tryz.prog 168 = .nilf := by kernel_rfl
@[simp] theorem td169 : td Tryz.prog 169 = .func := by kernel_rfl
@[simp] theorem sz169 : sz Tryz.prog 169 = 1 := by kernel_rfl
@[simp] theorem byt169 : byt Tryz.prog 169 = 8 := by kernel_rfl
@[simp] theorem zr169 : zr Tryz.prog 169 = .nilf := by kernel_rfl
@[simp] theorem td170 : td Tryz.prog 170 = .func := by kernel_rfl
@[simp] theorem sz170 : sz Tryz.prog 170 = 1 := by kernel_rfl
@[simp] theorem byt170 : byt Tryz.prog 170 = 8 := by kernel_rfl
@[simp] theorem zr170 : zr Tryz.prog 170 = .nilf := by kernel_rfl
@[simp] theorem td171 : td Tryz.prog 171 = .struct [(0, 94)] := by kernel_rfl
@[simp] theorem sz171 : sz Tryz.prog 171 = 3 := by kernel_rfl
@[simp] theorem byt171 : byt Tryz.prog 171 = 24 := by kernel_rfl
@[simp] theorem zr171 : zr Tryz.prog 171 = .agg ([.bool false, .int .i64 0, .int .i64 0]) := by kernel_rfl
@[simp] theorem fl171 : flatT Tryz.prog 171 = some ([true, false, false]) := by kernel_rfl
@[simp] theorem td172 : td Tryz.prog 172 = .struct [(0, 94)] := by kernel_rfl
@[simp] theorem sz172 : sz Tryz.prog 172 = 3 := by kernel_rfl
@[simp] theorem byt172 : byt Tryz.prog 172 = 24 := by kernel_rfl
@[simp] theorem zr172 : zr Tryz.prog 172 = .agg ([.bool false, .int .i64 0, .int .i64 0]) := by kernel_rfl
@[simp] theorem fl172 : flatT Tryz.prog 172 = some ([true, false, false]) := by kernel_rfl
@[simp] theorem td173 : td Tryz.prog 173 = .func := by kernel_rfl
@[simp] theorem sz173 : sz Tryz.prog 173 = 1 := by kernel_rfl
@[simp] theorem byt173 : byt Tryz.prog 173 = 8 := by kernel_rfl
@[simp] theorem zr173 : zr Tryz.prog 173 = .nilf := by kernel_rfl
@[simp] theorem td174 : td Tryz.prog 174 = .func := by kernel_rfl
@[simp] theorem sz174 : sz Tryz.prog 174 = 1 := by kernel_rfl
@[simp] theorem byt174 : byt Tryz.prog 174 = 8 := by kernel_rfl
@[simp] theorem zr174 : zr Tryz.prog 174 = .nilf := by kernel_rfl
@[simp] theorem td175 : td Tryz.prog 175 = .struct [(0, 124), (2, 124)] := by kernel_rfl
@[simp] theorem sz175 : sz Tryz.prog 175 = 4 := by kernel_rfl
@[simp] theorem byt175 : byt Tryz.prog 175 = 32 := by kernel_rfl
@[simp] theorem zr175 : zr Tryz.prog 175 = .agg ([.int .u64 0, .int .u64 0, .int .u64 0, .int .u64 0]) := by kernel_rfl
@[simp] theorem fl175 : flatT Tryz.prog 175 = some ([false, false, false, false]) := by kernel_rfl
@[simp] theorem td176 : td Tryz.prog 176 = .struct [(0, 124), (2, 124)] := by kernel_rfl
@[simp] theorem sz176 : sz Tryz.prog 176 = 4 := by kernel_rfl
@[simp] theorem byt176 : byt Tryz.prog 176 = 32 := by kernel_rfl
@[simp] theorem zr176 : zr Tryz.prog 176 = .agg ([.int .u64 0, .int .u64 0, .int .u64 0, .int .u64 0]) := by kernel_rfl
@[simp] theorem fl176 : flatT Tryz.prog 176 = some ([false, false, false, false]) := by kernel_rfl
@[simp] theorem td177 : td Tryz.prog 177 = .array 24 176 := by kernel_rfl
@[simp] theorem sz177 : sz Tryz.prog 177 = 96 := by kernel_rfl
@[simp] theorem byt177 : byt Tryz.prog 177 = 768 := by kernel_rfl
@[simp] theorem zr177 : zr Tryz.prog 177 = .agg (repl 96 (.int .u64 0)) := by kernel_rfl
@[simp] theorem fl177 : flatT Tryz.prog 177 = some (repl 96 (false)) := by kernel_rfl
@[simp] theorem td178 : td Tryz.prog 178 = .array 24 176 := by kernel_rfl
@[simp] theorem sz178 : sz Tryz.prog 178 = 96 := by kernel_rfl
@[simp] theorem byt178 : byt Tryz.prog 178 = 768 := by kernel_rfl
@[simp] theorem zr178 : zr Tryz.prog 178 = .agg (repl 96 (.int .u64 0)) := by kernel_rfl
@[simp] theorem fl178 : flatT Tryz.prog 178 = some (repl 96 (false)) := by kernel_rfl
@[simp] theorem td179 : td Tryz.prog 179 = .struct [(0, 3), (1, 178)] := by kernel_rfl
@[simp] theorem sz179 : sz Tryz.prog 179 = 97 := by kernel_rfl
@[simp] theorem byt179 : byt Tryz.prog 179 = 776 := by kernel_rfl
@[simp] theorem zr179 : zr Tryz.prog 179 = .agg (.int .i64 0 :: repl 96 (.int .u64 0)) := by kernel_rfl
@[simp] theorem fl179 : flatT Tryz.prog 179 = some (repl 97 (false)) := by kernel_rfl
@[simp] theorem td180 : td Tryz.prog 180 = .struct [(0, 3), (1, 178)] := by kernel_rfl
@[simp] theorem sz180 : sz Tryz.prog 180 = 97 := by kernel_rfl
@[simp] theorem byt180 : byt Tryz.prog 180 = 776 := by kernel_rfl
@[simp] theorem zr180 : zr Tryz.prog 180 = .agg (.int .i64 0 :: repl 96 (.int .u64 0)) := by kernel_rfl
@[simp] theorem fl180 : flatT Tryz.prog 180 = some (repl 97 (false)) := by kernel_rfl
@[simp] theorem td181 : td Tryz.prog 181 = .func := by kernel_rfl
@[simp] theorem sz181 : sz Tryz.prog 181 = 1 := by kernel_rfl
@[simp] theorem byt181 : byt Tryz.prog 181 = 8 := by kernel_rfl
@[simp] theorem zr181 : zr Tryz.prog 181 = .nilf := by kernel_rfl
@[simp] theorem td183 : td Tryz.prog 183 = .func := by kernel_rfl
@[simp] theorem sz183 : sz Tryz.prog 183 = 1 := by kernel_rfl
@[simp] theorem byt183 : byt Tryz.prog 183 = 8 := by kernel_rfl
@[simp] theorem zr183 : zr Tryz.prog 183 = .nilf := by kernel_rfl
@[simp] theorem td184 : td Tryz.prog 184 = .func := by kernel_rfl
@[simp] theorem sz184 : sz Tryz.prog 184 = 1 := by kernel_rfl
@[simp] theorem byt184 : byt Tryz.prog 184 = 8 := by kernel_rfl
@[simp] theorem zr184 : zr Tryz.prog 184 = .nilf := by kernel_rfl
@[simp] theorem td185 : td Tryz.prog 185 = .func := by kernel_rfl
@[simp] theorem sz185 : sz Tryz.prog 185 = 1 := by kernel_rfl
@[simp] theorem byt185 : byt Tryz.prog 185 = 8 := by kernel_rfl
@[simp] theorem zr185 : zr Tryz.prog 185 = .nilf := by kernel_rfl
@[simp] theorem td186 : td Tryz.prog 186 = .slice 4 := by kernel_rfl
@[simp] theorem sz186 : sz Tryz.prog 186 = 1 := by kernel_rfl
@[simp] theorem byt186 : byt Tryz.prog 186 = 24 := by kernel_rfl
@[simp] theorem zr186 : zr Tryz.prog 186 = .sl true 0 [] := by kernel_rfl
@[simp] theorem td187 : td Tryz.prog 187 = .func := by kernel_rfl
@[simp] theorem sz187 : sz Tryz.prog 187 = 1 := by kernel_rfl
@[simp] theorem byt187 : byt Tryz.prog 187 = 8 := by kernel_rfl
@[simp] theorem zr187 : zr Tryz.prog 187 = .nilf := by kernel_rfl
@[simp] theorem td189 : td Tryz.prog 189 = .func := by kernel_rfl
@[simp] theorem sz189 : sz Tryz.prog 189 = 1 := by kernel_rfl
@[simp] theorem byt189 : byt Tryz.prog 189 = 8 := by kernel_rfl
@[simp] theorem zr189 : zr Tryz.prog 189 = .nilf := by kernel_rfl
@[simp] theorem td190 : td Tryz.prog 190 = .func := by kernel_rfl
@[simp] theorem sz190 : sz Tryz.prog 190 = 1 := by kernel_rfl
@[simp] theorem byt190 : byt Tryz.prog 190 = 8 := by kernel_rfl
@[simp] theorem zr190 : zr Tryz.prog 190 = .nilf := by kernel_rfl
@[simp] theorem td191 : td Tryz.prog 191 = .func := by kernel_rfl
@[simp] theorem sz191 : sz Tryz.prog 191 = 1 := by kernel_rfl
@[simp] theorem byt191 : byt Tryz.prog 191 = 8 := by kernel_rfl
@[simp] theorem zr191 : zr Tryz.prog 191 = .nilf := by kernel_rfl
@[simp] theorem td192 : td Tryz.prog 192 = .func := by kernel_rfl
@[simp] theorem sz192 : sz Tryz.prog 192 = 1 := by kernel_rfl
@[simp] theorem byt192 : byt Tryz.prog 192 = 8 := by kernel_rfl
@[simp] theorem zr192 : zr Tryz.prog 192 = .nilf := by kernel_rfl
@[simp] theorem td193 : td Tryz.prog 193 = .func := by kernel_rfl
@[simp] theorem sz193 : sz Tryz.prog 193 = 1 := by kernel_rfl
@[simp] theorem byt193 : byt Tryz.prog 193 = 8 := by kernel_rfl
@[simp] theorem zr193 : zr Tryz.prog 193 = .nilf := by kernel_rfl
@[simp] theorem td194 : td Tryz.prog 194 = .int .u64 := by kernel_rfl
@[simp] theorem sz194 : sz Tryz.prog 194 = 1 := by kernel_rfl
@[simp] theorem byt194 : byt Tryz.prog 194 = 8 := by kernel_rfl
@[simp] theorem zr194 : zr Tryz.prog 194 = .int .u64 0 := by kernel_rfl
@[simp] theorem td195 : td Tryz.prog 195 = .func := by kernel_rfl
@[simp] theorem sz195 : sz Tryz.prog 195 = 1 := by kernel_rfl
@[simp] theorem byt195 : byt Tryz.prog 195 = 8 := by kernel_rfl
@[simp] theorem zr195 : zr Tryz.prog 195 = .nilf := by kernel_rfl
@[simp] theorem td196 : td Tryz.prog 196 = .func := by kernel_rfl
@[simp] theorem sz196 : sz Tryz.prog 196 = 1 := by kernel_rfl
@[simp] theorem byt196 : byt Tryz.prog 196 = 8 := by kernel_rfl
@[simp] theorem zr196 : zr Tryz.prog 196 = .nilf := by kernel_rfl
@[simp] theorem td197 : td Tryz.prog 197 = .func := by kernel_rfl
@[simp] theorem sz197 : sz Tryz.prog 197 = 1 := by kernel_rfl
@[simp] theorem byt197 : byt Tryz.prog 197 = 8 := by kernel_rfl
@[simp] theorem zr197 : zr Tryz.prog 197 = .nilf := by kernel_rfl
@[simp] theorem td198 : td Tryz.prog 198 = .ptr 3 := by kernel_rfl
@[simp] theorem sz198 : sz Tryz.prog 198 = 1 := by kernel_rfl
@[simp] theorem byt198 : byt Tryz.prog 198 = 8 := by kernel_rfl
@[simp] theorem zr198 : zr Tryz.prog 198 = .nilp := by kernel_rfl
@[simp] theorem td199 : td Tryz.prog 199 = .func := by kernel_rfl
@[simp] theorem sz199 : sz Tryz.prog 199 = 1 := by kernel_rfl
@[simp] theorem byt199 : byt Tryz.prog 199 = 8 := by kernel_rfl
@[simp] theorem zr199 : zr Tryz.prog 199 = .nilf := by kernel_rfl
@[simp] theorem td200 : td Tryz.prog 200 = .func := by kernel_rfl
@[simp] theorem sz200 : sz Tryz.prog 200 = 1 := by kernel_rfl
@[simp] theorem byt200 : byt Tryz.prog 200 = 8 := by kernel_rfl
@[simp] theorem zr200 : zr Tryz.prog 200 = .nilf := by kernel_rfl
@[simp] theorem td201 : td Tryz.prog 201 = .func := by kernel_rfl
@[simp] theorem sz201 : sz Tryz.prog 201 = 1 := by kernel_rfl
@[simp] theorem byt201 : byt Tryz.prog 201 = 8 := by kernel_rfl
@[simp] theorem zr201 : zr Tryz.prog 201 = .nilf := by kernel_rfl
@[simp] theorem td202 : td Tryz.prog 202 = .func := by kernel_rfl
@[simp] theorem sz202 : sz Tryz.prog 202 = 1 := by kernel_rfl
@[simp] theorem byt202 : byt Tryz.prog 202 = 8 := by kernel_rfl
@[simp] theorem zr202 : zr Tryz.prog 202 = .nilf := by kernel_rfl
@[simp] theorem td203 : td Tryz.prog 203 = .func := by kernel_rfl
@[simp] theorem sz203 : sz Tryz.prog 203 = 1 := by kernel_rfl
@[simp] theorem byt203 : byt Tryz.prog 203 = 8 := by kernel_rfl
@[simp] theorem zr203 : zr Tryz.prog 203 = .nilf := by kernel_rfl
@[simp] theorem td204 : td Tryz.prog 204 = .func := by kernel_rfl
@[simp] theorem sz204 : sz Tryz.prog 204 = 1 := by kernel_rfl
@[simp] theorem byt204 : byt Tryz.prog 204 = 8 := by kernel_rfl
@[simp] theorem zr204 : zr Tryz.prog 204 = .nilf := by kernel_rfl
@[simp] theorem td205 : td Tryz.prog 205 = .func := by kernel_rfl
@[simp] theorem sz205 : sz Tryz.prog 205 = 1 := by kernel_rfl
@[simp] theorem byt205 : byt Tryz.prog 205 = 8 := by kernel_rfl
@[simp] theorem zr205 : zr Tryz.prog 205 = .nilf := by kernel_rfl
@[simp] theorem td206 : td Tryz.prog 206 = .func := by kernel_rfl
@[simp] theorem sz206 : sz Tryz.prog 206 = 1 := by kernel_rfl
@[simp] theorem byt206 : byt Tryz.prog 206 = 8 := by kernel_rfl
@[simp] theorem zr206 : zr Tryz.prog 206 = .nilf := by kernel_rfl
@[simp] theorem td207 : td Tryz.prog 207 = .func := by kernel_rfl
@[simp] theorem sz207 : sz Tryz.prog 207 = 1 := by kernel_rfl
@[simp] theorem byt207 : byt Tryz.prog 207 = 8 := by kernel_rfl
@[simp] theorem zr207 : zr Tryz.prog 207 = .nilf := by kernel_rfl
@[simp] theorem td209 : td Tryz.prog 209 = .func := by kernel_rfl
@[simp] theorem sz209 : sz Tryz.prog 209 = 1 := by kernel_rfl
@[simp] theorem byt209 : byt Tryz.prog 209 = 8 := by kernel_rfl
@[simp] theorem zr209 : zr Tryz.prog 209 = .nilf := by kernel_rfl
@[simp] theorem td210 : td Tryz.prog 210 = .func := by kernel_rfl
@[simp] theorem sz210 : sz Tryz.prog 210 = 1 := by kernel_rfl
@[simp] theorem byt210 : byt Tryz.prog 210 = 8 := by kernel_rfl
@[simp] theorem zr210 : zr Tryz.prog 210 = .nilf := by kernel_rfl
@[simp] theorem td211 : td Tryz.prog 211 = .func := by kernel_rfl
@[simp] theorem sz211 : sz Tryz.prog 211 = 1 := by kernel_rfl
@[simp] theorem byt211 : byt Tryz.prog 211 = 8 := by kernel_rfl
@[simp] theorem zr211 : zr Tryz.prog 211 = .nilf := by kernel_rfl
@[simp] theorem td212 : td Tryz.prog 212 = .func := by kernel_rfl
@[simp] theorem sz212 : sz Tryz.prog 212 = 1 := by kernel_rfl
@[simp] theorem byt212 : byt Tryz.prog 212 = 8 := by kernel_rfl
@[simp] theorem zr212 : zr Tryz.prog 212 = .nilf := by kernel_rfl
@[simp] theorem td213 : td Tryz.prog 213 = .func := by kernel_rfl
@[simp] theorem sz213 : sz Tryz.prog 213 = 1 := by kernel_rfl
@[simp] theorem byt213 : byt Tryz.prog 213 = 8 := by kernel_rfl
@[simp] theorem zr213 : zr Tryz.prog 213 = .nilf := by kernel_rfl
@[simp] theorem td214 : td Tryz.prog 214 = .slice 218 := by kernel_rfl
@[simp] theorem sz214 : sz Tryz.prog 214 = 1 := by kernel_rfl
@[simp] theorem byt214 : byt Tryz.prog 214 = 24 := by kernel_rfl
@[simp] theorem zr214 : zr Tryz.prog 214 = .sl true 0 [] := by kernel_rfl
@[simp] theorem td215 : td Tryz.prog 215 = .func := by kernel_rfl
@[simp] theorem sz215 : sz Tryz.prog 215 = 1 := by kernel_rfl
@[simp] theorem byt215 : byt Tryz.prog 215 = 8 := by kernel_rfl
@[simp] theorem zr215 : zr Tryz.prog 215 = .nilf := by kernel_rfl
@[simp] theorem td216 : td Tryz.prog 216 = .slice 124 := by kernel_rfl
@[simp] theorem sz216 : sz Tryz.prog 216 = 1 := by kernel_rfl
@[simp] theorem byt216 : byt Tryz.prog 216 = 24 := by kernel_rfl
@[simp] theorem zr216 : zr Tryz.prog 216 = .sl true 0 [] := by kernel_rfl
@[simp] theorem td217 : td Tryz.prog 217 = .struct [(0, 3), (1, 216)] := by kernel_rfl
@[simp] theorem sz217 : sz Tryz.prog 217 = 2 := by kernel_rfl
@[simp] theorem byt217 : byt Tryz.prog 217 = 32 := by kernel_rfl
@[simp] theorem zr217 : zr Tryz.prog 217 = .agg ([.int .i64 0, .sl true 0 []]) := by kernel_rfl
@[simp] theorem td218 : td Tryz.prog 218 = .struct [(0, 3), (1, 216)] := by kernel_rfl
@[simp] theorem sz218 : sz Tryz.prog 218 = 2 := by kernel_rfl
@[simp] theorem byt218 : byt Tryz.prog 218 = 32 := by kernel_rfl
@[simp] theorem zr218 : zr Tryz.prog 218 = .agg ([.int .i64 0, .sl true 0 []]) := by kernel_rfl
@[simp] theorem td219 : td Tryz.prog 219 = .func := by kernel_rfl
@[simp] theorem sz219 : sz Tryz.prog 219 = 1 := by kernel_rfl
@[simp] theorem byt219 : byt Tryz.prog 219 = 8 := by kernel_rfl
@[simp] theorem zr219 : zr Tryz.prog 219 = .nilf := by kernel_rfl
@[simp] theorem td220 : td Tryz.prog 220 = .ptr 194 := by kernel_rfl
@[simp] theorem sz220 : sz Tryz.prog 220 = 1 := by kernel_rfl
@[simp] theorem byt220 : byt Tryz.prog 220 = 8 := by kernel_rfl
@[simp] theorem zr220 : zr Tryz.prog 220 = .nilp := by kernel_rfl
@[simp] theorem td222 : td Tryz.prog 222 = .func := by kernel_rfl
@[simp] theorem sz222 : sz Tryz.prog 222 = 1 := by kernel_rfl
@[simp] theorem byt222 : byt Tryz.prog 222 = 8 := by kernel_rfl
@[simp] theorem zr222 : zr Tryz.prog 222 = .nilf := by kernel_rfl
@[simp] theorem td223 : td Tryz.prog 223 = .func := by kernel_rfl
@[simp] theorem sz223 : sz Tryz.prog 223 = 1 := by kernel_rfl
@[simp] theorem byt223 : byt Tryz.prog 223 = 8 := by kernel_rfl
@[simp] theorem zr223 : zr Tryz.prog 223 = .nilf := by kernel_rfl
@[simp] theorem td224 : td Tryz.prog 224 = .func := by kernel_rfl
@[simp] theorem sz224 : sz Tryz.prog 224 = 1 := by kernel_rfl
@[simp] theorem byt224 : byt Tryz.prog 224 = 8 := by kernel_rfl
@[simp] theorem zr224 : zr Tryz.prog 224 = .nilf := by kernel_rfl
@[simp] theorem td225 : td Tryz.prog 225 = .func := by kernel_rfl
@[simp] theorem sz225 : sz Tryz.prog 225 = 1 := by kernel_rfl
@[simp] theorem byt225 : byt Tryz.prog 225 = 8 := by kernel_rfl
@[simp] theorem zr225 : zr Tryz.prog 225 = .nilf := by kernel_rfl
@[simp] theorem td226 : td Tryz.prog 226 = .func := by kernel_rfl
@[simp] theorem sz226 : sz Tryz.prog 226 = 1 := by kernel_rfl
@[simp] theorem byt226 : byt Tryz.prog 226 = 8 := by kernel_rfl
@[simp] theorem zr226 : zr Tryz.prog 226 = .nilf := by kernel_rfl
@[simp] theorem td227 : td Tryz.prog 227 = .int .i64 := by kernel_rfl
@[simp] theorem sz227 : sz Tryz.prog 227 = 1 := by kernel_rfl
@[simp] theorem byt227 : byt Tryz.prog 227 = 8 := by kernel_rfl
@[simp] theorem zr227 : zr Tryz.prog 227 = .int .i64 0 := by kernel_rfl
@[simp] theorem td228 : td Tryz.prog 228 = .func := by kernel_rfl
@[simp] theorem sz228 : sz Tryz.prog 228 = 1 := by kernel_rfl
@[simp] theorem byt228 : byt Tryz.prog 228 = 8 := by kernel_rfl
@[simp] theorem zr228 : zr Tryz.prog 228 = .nilf := by kernel_rfl
@[simp] theorem td229 : td Tryz.prog 229 = .struct [(0, 9), (1, 3), (2, 3), (3, 4)] := by kernel_rfl
@[simp] theorem sz229 : sz Tryz.prog 229 = 4 := by kernel_rfl
@[simp] theorem byt229 : byt Tryz.prog 229 = 40 := by kernel_rfl
@[simp] theorem zr229 : zr Tryz.prog 229 = .agg ([.str ByteArray.empty, .int .i64 0, .int .i64 0, .bool false]) := by kernel_rfl
@[simp] theorem td230 : td Tryz.prog 230 = .struct [(0, 9), (1, 3), (2, 3), (3, 4)] := by kernel_rfl
@[simp] theorem sz230 : sz Tryz.prog 230 = 4 := by kernel_rfl
@[simp] theorem byt230 : byt Tryz.prog 230 = 40 := by kernel_rfl
@[simp] theorem zr230 : zr Tryz.prog 230 = .agg ([.str ByteArray.empty, .int .i64 0, .int .i64 0, .bool false]) := by kernel_rfl
@[simp] theorem td231 : td Tryz.prog 231 = .func := by kernel_rfl
@[simp] theorem sz231 : sz Tryz.prog 231 = 1 := by kernel_rfl
@[simp] theorem byt231 : byt Tryz.prog 231 = 8 := by kernel_rfl
@[simp] theorem zr231 : zr Tryz.prog 231 = .nilf := by kernel_rfl
@[simp] theorem td232 : td Tryz.prog 232 = .array 16 5 := by kernel_rfl
@[simp] theorem sz232 : sz Tryz.prog 232 = 16 := by kernel_rfl
@[simp] theorem byt232 : byt Tryz.prog 232 = 16 := by kernel_rfl
@[simp] theorem zr232 : zr Tryz.prog 232 = .agg ([.int .u8 0, .int .u8 0, .int .u8 0, .int .u8 0, .int .u8 0, .int .u8 0, .int .u8 0, .int .u8 0, .int .u8 0, .int .u8 0, .int .u8 0, .int .u8 0, .int .u8 0, .int .u8 0, .int .u8 0, .int .u8 0]) := by kernel_rfl
@[simp] theorem fl232 : flatT Tryz.prog 232 = some ([false, false, false, false, false, false, false, false, false, false, false, false, false, false, false, false]) := by kernel_rfl
@[simp] theorem td233 : td Tryz.prog 233 = .func := by kernel_rfl
@[simp] theorem sz233 : sz Tryz.prog 233 = 1 := by kernel_rfl
@[simp] theorem byt233 : byt Tryz.prog 233 = 8 := by kernel_rfl
@[simp] theorem zr233 : zr Tryz.prog 233 = .nilf := by kernel_rfl
@[simp] theorem td234 : td Tryz.prog 234 = .func := by kernel_rfl
@[simp] theorem sz234 : sz Tryz.prog 234 = 1 := by kernel_rfl
@[simp] theorem byt234 : byt Tryz.prog 234 = 8 := by kernel_rfl
@[simp] theorem zr234 : zr Tryz.prog 234 = .nilf := by kernel_rfl
@[simp] theorem td235 : td Tryz.prog 235 = .func := by kernel_rfl
@[simp] theorem sz235 : sz Tryz.prog 235 = 1 := by kernel_rfl
@[simp] theorem byt235 : byt Tryz.prog 235 = 8 := by kernel_rfl
@[simp] theorem zr235 : zr Tryz.prog 235 = .nilf := by kernel_rfl
@[simp] theorem td236 : td Tryz.prog 236 = .func := by kernel_rfl
@[simp] theorem sz236 : sz Tryz.prog 236 = 1 := by kernel_rfl
@[simp] theorem byt236 : byt Tryz.prog 236 = 8 := by kernel_rfl
@[simp] theorem zr236 : zr Tryz.prog 236 = .nilf := by kernel_rfl
@[simp] theorem td237 : td Tryz.prog 237 = .func := by kernel_rfl
@[simp] theorem sz237 : sz Tryz.prog 237 = 1 := by kernel_rfl
@[simp] theorem byt237 : byt Tryz.prog 237 = 8 := by kernel_rfl
@[simp] theorem zr237 : zr Tryz.prog 237 = .nilf := by kernel_rfl
@[simp] theorem td238 : td Tryz.prog 238 = .func := by kernel_rfl
@[simp] theorem sz238 : sz Tryz.prog 238 = 1 := by kernel_rfl
@[simp] theorem byt238 : byt Tryz.prog 238 = 8 := by kernel_rfl
@[simp] theorem zr238 : zr Tryz.prog 238 = .nilf := by kernel_rfl
@[simp] theorem td240 : td Tryz.prog 240 = .func := by kernel_rfl
@[simp] theorem sz240 : sz Tryz.prog 240 = 1 := by kernel_rfl
@[simp] theorem byt240 : byt Tryz.prog 240 = 8 := by kernel_rfl
@[simp] theorem zr240 : zr Tryz.prog 240 = .nilf := by kernel_rfl
@[simp] theorem td241 : td Tryz.prog 241 = .func := by kernel_rfl
@[simp] theorem sz241 : sz Tryz.prog 241 = 1 := by kernel_rfl
@[simp] theorem byt241 : byt Tryz.prog 241 = 8 := by kernel_rfl
@[simp] theorem zr241 : zr Tryz.prog 241 = .nilf := by kernel_rfl
@[simp] theorem td242 : td Tryz.prog 242 = .func := by kernel_rfl
@[simp] theorem sz242 : sz Tryz.prog 242 = 1 := by kernel_rfl
@[simp] theorem byt242 : byt Tryz.prog 242 = 8 := by kernel_rfl
@[simp] theorem zr242 : zr Tryz.prog 242 = .nilf := by kernel_rfl
@[simp] theorem td243 : td Tryz.prog 243 = .func := by kernel_rfl
@[simp] theorem sz243 : sz Tryz.prog 243 = 1 := by kernel_rfl
@[simp] theorem byt243 : byt Tryz.prog 243 = 8 := by kernel_rfl
@[simp] theorem zr243 : zr Tryz.prog 243 = .nilf := by kernel_rfl
@[simp] theorem td244 : td Tryz.prog 244 = .func := by kernel_rfl
@[simp] theorem sz244 : sz Tryz.prog 244 = 1 := by kernel_rfl
@[simp] theorem byt244 : byt Tryz.prog 244 = 8 := by kernel_rfl
@[simp] theorem zr244 : zr Tryz.prog 244 = .nilf := by kernel_rfl
@[simp] theorem td245 : td Tryz.prog 245 = .slice 78 := by kernel_rfl
@[simp] theorem sz245 : sz Tryz.prog 245 = 1 := by kernel_rfl
@[simp] theorem byt245 : byt Tryz.prog 245 = 24 := by kernel_rfl
@[simp] theorem zr245 : zr Tryz.prog 245 = .sl true 0 [] := by kernel_rfl
@[simp] theorem td246 : td Tryz.prog 246 = .func := by kernel_rfl
@[simp] theorem sz246 : sz Tryz.prog 246 = 1 := by kernel_rfl
@[simp] theorem byt246 : byt Tryz.prog 246 = 8 := by kernel_rfl
@[simp] theorem zr246 : zr Tryz.prog 246 = .nilf := by kernel_rfl
@[simp] theorem td247 : td Tryz.prog 247 = .array 24 230 := by kernel_rfl
@[simp] theorem sz247 : sz Tryz.prog 247 = 96 := by kernel_rfl
@[simp] theorem byt247 : byt Tryz.prog 247 = 960 := by kernel_rfl
@[simp] theorem zr247 : zr Tryz.prog 247 = .agg ([.str ByteArray.empty, .int .i64 0, .int .i64 0, .bool false, .str ByteArray.empty, .int .i64 0, .int .i64 0, .bool false, .str ByteArray.empty, .int .i64 0, .int .i64 0, .bool false, .str ByteArray.empty, .int .i64 0, .int .i64 0, .bool false, .str ByteArray.empty, .int .i64 0, .int .i64 0, .bool false, .str ByteArray.empty, .int .i64 0, .int .i64 0, .bool false, .str ByteArray.empty, .int .i64 0, .int .i64 0, .bool false, .str ByteArray.empty, .int .i64 0, .int .i64 0, .bool false, .str ByteArray.empty, .int .i64 0, .int .i64 0, .bool false, .str ByteArray.empty, .int .i64 0, .int .i64 0, .bool false, .str ByteArray.empty, .int .i64 0, .int .i64 0, .bool false, .str ByteArray.empty, .int .i64 0, .int .i64 0, .bool false, .str ByteArray.empty, .int .i64 0, .int .i64 0, .bool false, .str ByteArray.empty, .int .i64 0, .int .i64 0, .bool false, .str ByteArray.empty, .int .i64 0, .int .i64 0, .bool false, .str ByteArray.empty, .int .i64 0, .int .i64 0, .bool false, .str ByteArray.empty, .int .i64 0, .int .i64 0, .bool false, .str ByteArray.empty, .int .i64 0, .int .i64 0, .bool false, .str ByteArray.empty, .int .i64 0, .int .i64 0, .bool false, .str ByteArray.empty, .int .i64 0, .int .i64 0, .bool false, .str ByteArray.empty, .int .i64 0, .int .i64 0, .bool false, .str ByteArray.empty, .int .i64 0, .int .i64 0, .bool false, .str ByteArray.empty, .int .i64 0, .int .i64 0, .bool false, .str ByteArray.empty, .int .i64 0, .int .i64 0, .bool false]) := by kernel_rfl
@[simp] theorem td248 : td Tryz.prog 248 = .func := by kernel_rfl
@[simp] theorem sz248 : sz Tryz.prog 248 = 1 := by kernel_rfl
@[simp] theorem byt248 : byt Tryz.prog 248 = 8 := by kernel_rfl
@[simp] theorem zr248 : zr Tryz.prog 248 = .nilf := by kernel_rfl
@[simp] theorem td249 : td Tryz.prog 249 = .func := by kernel_rfl
@[simp] theorem sz249 : sz Tryz.prog 249 = 1 := by kernel_rfl
@[simp] theorem byt249 : byt Tryz.prog 249 = 8 := by kernel_rfl
@[simp] theorem zr249 : zr Tryz.prog 249 = .nilf := by kernel_rfl
@[simp] theorem td250 : td Tryz.prog 250 = .func := by kernel_rfl
@[simp] theorem sz250 : sz Tryz.prog 250 = 1 := by kernel_rfl
@[simp] theorem byt250 : byt Tryz.prog 250 = 8 := by kernel_rfl
@[simp] theorem zr250 : zr Tryz.prog 250 = .nilf := by kernel_rfl
@[simp] theorem td251 : td Tryz.prog 251 = .func := by kernel_rfl
@[simp] theorem sz251 : sz Tryz.prog 251 = 1 := by kernel_rfl
@[simp] theorem byt251 : byt Tryz.prog 251 = 8 := by kernel_rfl
@[simp] theorem zr251 : zr Tryz.prog 251 = .nilf := by kernel_rfl
@[simp] theorem td252 : td Tryz.prog 252 = .func := by kernel_rfl
@[simp] theorem sz252 : sz Tryz.prog 252 = 1 := by kernel_rfl
@[simp] theorem byt252 : byt Tryz.prog 252 = 8 := by kernel_rfl
@[simp] theorem zr252 : zr Tryz.prog 252 = .nilf := by kernel_rfl
@[simp] theorem td253 : td Tryz.prog 253 = .func := by kernel_rfl
@[simp] theorem sz253 : sz Tryz.prog 253 = 1 := by kernel_rfl
@[simp] theorem byt253 : byt Tryz.prog 253 = 8 := by kernel_rfl
@[simp] theorem zr253 : zr Tryz.prog 253 = .nilf := by kernel_rfl
@[simp] theorem td254 : td Tryz.prog 254 = .struct [(0, 17), (1, 17), (2, 17), (3, 9)] := by kernel_rfl
@[simp] theorem sz254 : sz Tryz.prog 254 = 4 := by kernel_rfl
@[simp] theorem byt254 : byt Tryz.prog 254 = 40 := by kernel_rfl
@[simp] theorem zr254 : zr Tryz.prog 254 = .agg ([.nilp, .nilp, .nilp, .str ByteArray.empty]) := by kernel_rfl
@[simp] theorem td255 : td Tryz.prog 255 = .struct [(0, 17), (1, 17), (2, 17), (3, 9)] := by kernel_rfl
@[simp] theorem sz255 : sz Tryz.prog 255 = 4 := by kernel_rfl
@[simp] theorem byt255 : byt Tryz.prog 255 = 40 := by kernel_rfl
@[simp] theorem zr255 : zr Tryz.prog 255 = .agg ([.nilp, .nilp, .nilp, .str ByteArray.empty]) := by kernel_rfl
@[simp] theorem td256 : td Tryz.prog 256 = .array 0 16 := by kernel_rfl
@[simp] theorem sz256 : sz Tryz.prog 256 = 0 := by kernel_rfl
@[simp] theorem byt256 : byt Tryz.prog 256 = 0 := by kernel_rfl
@[simp] theorem zr256 : zr Tryz.prog 256 = .agg ([]) := by kernel_rfl
@[simp] theorem td257 : td Tryz.prog 257 = .struct [(0, 256)] := by kernel_rfl
@[simp] theorem sz257 : sz Tryz.prog 257 = 0 := by kernel_rfl
@[simp] theorem byt257 : byt Tryz.prog 257 = 0 := by kernel_rfl
@[simp] theorem zr257 : zr Tryz.prog 257 = .agg ([]) := by kernel_rfl
@[simp] theorem td258 : td Tryz.prog 258 = .struct [(0, 256)] := by kernel_rfl
@[simp] theorem sz258 : sz Tryz.prog 258 = 0 := by kernel_rfl
@[simp] theorem byt258 : byt Tryz.prog 258 = 0 := by kernel_rfl
@[simp] theorem zr258 : zr Tryz.prog 258 = .agg ([]) := by kernel_rfl
@[simp] theorem td259 : td Tryz.prog 259 = .func := by kernel_rfl
@[simp] theorem sz259 : sz Tryz.prog 259 = 1 := by kernel_rfl
@[simp] theorem byt259 : byt Tryz.prog 259 = 8 := by kernel_rfl
@[simp] theorem zr259 : zr Tryz.prog 259 = .nilf := by kernel_rfl
@[simp] theorem td260 : td Tryz.prog 260 = .int .u8 := by kernel_rfl
@[simp] theorem sz260 : sz Tryz.prog 260 = 1 := by kernel_rfl
@[simp] theorem byt260 : byt Tryz.prog 260 = 1 := by kernel_rfl
@[simp] theorem zr260 : zr Tryz.prog 260 = .int .u8 0 := by kernel_rfl
@[simp] theorem td261 : td Tryz.prog 261 = .int .u8 := by kernel_rfl
@[simp] theorem sz261 : sz Tryz.prog 261 = 1 := by kernel_rfl
@[simp] theorem byt261 : byt Tryz.prog 261 = 1 := by kernel_rfl
@[simp] theorem zr261 : zr Tryz.prog 261 = .int .u8 0 := by kernel_rfl
@[simp] theorem td262 : td Tryz.prog 262 = .func := by kernel_rfl
@[simp] theorem sz262 : sz Tryz.prog 262 = 1 := by kernel_rfl
@[simp] theorem byt262 : byt Tryz.prog 262 = 8 := by kernel_rfl
@[simp] theorem zr262 : zr Tryz.prog 262 = .nilf := by kernel_rfl
@[simp] theorem td263 : td Tryz.prog 263 = .ptr 5 := by kernel_rfl
@[simp] theorem sz263 : sz Tryz.prog 263 = 1 := by kernel_rfl
@[simp] theorem byt263 : byt Tryz.prog 263 = 8 := by kernel_rfl
@[simp] theorem zr263 : zr Tryz.prog 263 = .nilp := by kernel_rfl
@[simp] theorem td264 : td Tryz.prog 264 = .int .i32 := by kernel_rfl
@[simp] theorem sz264 : sz Tryz.prog 264 = 1 := by kernel_rfl
@[simp] theorem byt264 : byt Tryz.prog 264 = 4 := by kernel_rfl
@[simp] theorem zr264 : zr Tryz.prog 264 = .int .i32 0 := by kernel_rfl
@[simp] theorem td265 : td Tryz.prog 265 = .int .i32 := by kernel_rfl
@[simp] theorem sz265 : sz Tryz.prog 265 = 1 := by kernel_rfl
@[simp] theorem byt265 : byt Tryz.prog 265 = 4 := by kernel_rfl
@[simp] theorem zr265 : zr Tryz.prog 265 = .int .i32 0 := by kernel_rfl
@[simp] theorem td266 : td Tryz.prog 266 = .struct [(0, 12), (1, 12), (2, 147), (3, 260), (4, 5), (5, 5), (6, 261), (7, 262), (8, 263), (9, 264), (10, 265)] := by kernel_rfl
@[simp] theorem sz266 : sz Tryz.prog 266 = 11 := by kernel_rfl
@[simp] theorem byt266 : byt Tryz.prog 266 = 48 := by kernel_rfl
@[simp] theorem zr266 : zr Tryz.prog 266 = .agg ([.int .u64 0, .int .u64 0, .int .u32 0, .int .u8 0, .int .u8 0, .int .u8 0, .int .u8 0, .nilf, .nilp, .int .i32 0, .int .i32 0]) := by kernel_rfl
@[simp] theorem td267 : td Tryz.prog 267 = .struct [(0, 12), (1, 12), (2, 147), (3, 260), (4, 5), (5, 5), (6, 261), (7, 262), (8, 263), (9, 264), (10, 265)] := by kernel_rfl
@[simp] theorem sz267 : sz Tryz.prog 267 = 11 := by kernel_rfl
@[simp] theorem byt267 : byt Tryz.prog 267 = 48 := by kernel_rfl
@[simp] theorem zr267 : zr Tryz.prog 267 = .agg ([.int .u64 0, .int .u64 0, .int .u32 0, .int .u8 0, .int .u8 0, .int .u8 0, .int .u8 0, .nilf, .nilp, .int .i32 0, .int .i32 0]) := by kernel_rfl
@[simp] theorem td268 : td Tryz.prog 268 = .func := by kernel_rfl
@[simp] theorem sz268 : sz Tryz.prog 268 = 1 := by kernel_rfl
@[simp] theorem byt268 : byt Tryz.prog 268 = 8 := by kernel_rfl
@[simp] theorem zr268 : zr Tryz.prog 268 = .nilf := by kernel_rfl
end Go.Proofs.YtmhapglejjehbaaGreat

section
set_option maxRecDepth 4000
namespace Go.Proofs.YtmhapglejjehbaaGreat
open Go Go.AI Go.Proofs
theorem cellsOf_sz (t : TypeId) : Tryz.prog.cellsOf t = sz Tryz.prog t := rfl
section
variable {H : Type} {enc : TypeId × Value → H} {w : World} {sp : Nat → Bool} {held : Bool}
theorem rdWide : Rd enc Tryz.prog w sp held 124 Wide.enc := by
 intro fuel cs x h
 obtain ⟨hl, fuel', hf⟩ := trod_struct Tryz.underlying124 h
 simp only [cellsOf_sz, sz124] at hl
 simp only [List.mem_cons, List.not_mem_nil, or_false, forall_eq_or_imp, forall_eq, cellsOf_sz, sz78] at hf
 match cs, hl, hf with
 | [c0, c1], _, ⟨⟨y0, h0⟩, ⟨y1, h1⟩⟩ =>
   obtain ⟨b0, e0⟩ := rd_u64 Tryz.underlying78 h0
   obtain ⟨b1, e1⟩ := rd_u64 Tryz.underlying78 h1
   simp at e0 e1
   subst e0 e1
   exact ⟨⟨b0, b1⟩, by simp [Wide.enc, RelL, Rel], by simp [Ones, Value.oneCell']⟩
theorem rdOxm : Rd enc Tryz.prog w sp held 134 Oxm.enc := by
 intro fuel cs x h
 obtain ⟨hl, fuel', hf⟩ := trod_struct Tryz.underlying134 h
 simp only [cellsOf_sz, sz134] at hl
 simp only [List.mem_cons, List.not_mem_nil, or_false, forall_eq_or_imp, forall_eq, cellsOf_sz, sz124, sz3, sz4] at hf
 match cs, hl, hf with
 | [c0, c1, c2, c3, c4, c5], _, ⟨⟨y0, h0⟩, ⟨y1, h1⟩, ⟨y2, h2⟩, ⟨y3, h3⟩⟩ =>
   obtain ⟨n, e0⟩ := rd_int Tryz.underlying3 h0
   obtain ⟨b, e1⟩ := trod_bool Tryz.underlying4 h1
   obtain ⟨v, r2, o2⟩ := rdWide fuel' _ y2 h2
   obtain ⟨m, r3, o3⟩ := rdWide fuel' _ y3 h3
   simp at e0 e1
   subst e0 e1
   exact ⟨⟨n, b, v, m⟩, RelL.cons (by simp [Rel]) (RelL.cons (by simp [Rel]) (r2.append r3)), (Ones.append (vs := [_, _]) (by simp [Ones, Value.oneCell']) (o2.append o3))⟩
theorem rdAction : Rd enc Tryz.prog w sp held 136 Action.enc := by
 intro fuel cs x h
 obtain ⟨hl, fuel', hf⟩ := trod_struct Tryz.underlying136 h
 simp only [cellsOf_sz, sz136] at hl
 simp only [List.mem_cons, List.not_mem_nil, or_false, forall_eq_or_imp, forall_eq, cellsOf_sz, sz134, sz3] at hf
 match cs, hl, hf with
 | [c0, c1, c2, c3, c4, c5, c6, c7, c8, c9, c10], _, ⟨⟨y0, h0⟩, ⟨y1, h1⟩, ⟨y2, h2⟩, ⟨y3, h3⟩, ⟨y4, h4⟩, ⟨y5, h5⟩⟩ =>
   obtain ⟨n0, e0⟩ := rd_int Tryz.underlying3 h0
   obtain ⟨n1, e1⟩ := rd_int Tryz.underlying3 h1
   obtain ⟨n2, e2⟩ := rd_int Tryz.underlying3 h2
   obtain ⟨n3, e3⟩ := rd_int Tryz.underlying3 h3
   obtain ⟨n4, e4⟩ := rd_int Tryz.underlying3 h4
   obtain ⟨o, r5, o5⟩ := rdOxm fuel' _ y5 h5
   simp at e0 e1 e2 e3 e4
   subst e0 e1 e2 e3 e4
   exact ⟨⟨n0, n1, n2, n3, n4, o⟩, RelL.cons (by simp [Rel]) (RelL.cons (by simp [Rel]) (RelL.cons (by simp [Rel]) (RelL.cons (by simp [Rel]) (RelL.cons (by simp [Rel]) r5)))), (Ones.append (vs := [_, _, _, _, _]) (by simp [Ones, Value.oneCell']) o5)⟩
theorem one_of_sl {f : Bool} {n : Nat} {cs : List AV} {E : Env} {G : Heap} {v : Value} (h : Rel E G (.sl f n cs) v) : v.oneCell' = true := by
 simp only [Rel] at h
 rcases h with ⟨a, cap, rfl, _⟩ | ⟨_, _, _, _, rfl, _⟩ <;> rfl
theorem rdInst : Rd enc Tryz.prog w sp held 126 Inst.enc := by
 intro fuel cs x h
 obtain ⟨hl, fuel', hf⟩ := trod_struct Tryz.underlying126 h
 simp only [cellsOf_sz, sz126] at hl
 simp only [List.mem_cons, List.not_mem_nil, or_false, forall_eq_or_imp, forall_eq, cellsOf_sz, sz124, sz3, sz96] at hf
 match cs, hl, hf with
 | [c0, c1, c2, c3, c4, c5, c6], _, ⟨⟨y0, h0⟩, ⟨y1, h1⟩, ⟨y2, h2⟩, ⟨y3, h3⟩, ⟨y4, h4⟩⟩ =>
   obtain ⟨n0, e0⟩ := rd_int Tryz.underlying3 h0
   obtain ⟨n1, e1⟩ := rd_int Tryz.underlying3 h1
   obtain ⟨v, r2, o2⟩ := rdWide fuel' _ y2 h2
   obtain ⟨m, r3, o3⟩ := rdWide fuel' _ y3 h3
   obtain ⟨l, u, e4, r4⟩ := rd_slice (s := 11) (f := Action.enc) Tryz.underlying96 (by kernel_rfl) (by omega) Action.len rdAction h4
   simp at e0 e1 e4
   subst e0 e1 e4
   exact ⟨⟨n0, n1, v, m, l⟩, RelL.cons (by simp [Rel]) (RelL.cons (by simp [Rel]) (r2.append (r3.append (RelL.cons r4 RelL.nil)))),
     (Ones.append (vs := [_, _]) (by simp [Ones, Value.oneCell']) (o2.append (o3.append (Ones.single (one_of_sl r4)))))⟩
theorem rdFlow : Rd enc Tryz.prog w sp held 82 Flow.enc := by
 intro fuel cs x h
 obtain ⟨hl, fuel', hf⟩ := trod_struct Tryz.underlying82 h
 simp only [cellsOf_sz, sz82] at hl
 simp only [List.mem_cons, List.not_mem_nil, or_false, forall_eq_or_imp, forall_eq, cellsOf_sz, sz78, sz3, sz79, sz80] at hf
 match cs, hl, hf with
 | [c0, c1, c2, c3, c4, c5, c6], _, ⟨⟨y0, h0⟩, ⟨y1, h1⟩, ⟨y2, h2⟩, ⟨y3, h3⟩, ⟨y4, h4⟩, ⟨y5, h5⟩, ⟨y6, h6⟩⟩ =>
   obtain ⟨b0, e0⟩ := rd_u64 Tryz.underlying78 h0
   obtain ⟨n1, e1⟩ := rd_int Tryz.underlying3 h1
   obtain ⟨n2, e2⟩ := rd_int Tryz.underlying3 h2
   obtain ⟨n3, e3⟩ := rd_int Tryz.underlying3 h3
   obtain ⟨n4, e4⟩ := rd_int Tryz.underlying3 h4
   obtain ⟨l, u, e5, r5⟩ := rd_slice (s := 6) (f := Oxm.enc) Tryz.underlying79 (by kernel_rfl) (by omega) Oxm.len rdOxm h5
   obtain ⟨k, u', e6, r6⟩ := rd_slice (s := 7) (f := Inst.enc) Tryz.underlying80 (by kernel_rfl) (by omega) Inst.len rdInst h6
   simp at e0 e1 e2 e3 e4 e5 e6
   subst e0 e1 e2 e3 e4 e5 e6
   exact ⟨⟨b0, n1, n2, n3, n4, l, k⟩, RelL.cons (by simp [Rel]) (RelL.cons (by simp [Rel]) (RelL.cons (by simp [Rel]) (RelL.cons (by simp [Rel]) (RelL.cons (by simp [Rel]) (RelL.cons r5 (RelL.cons r6 RelL.nil)))))),
     (Ones.append (vs := [_, _, _, _, _]) (by simp [Ones, Value.oneCell']) (Ones.append (vs := [_]) (Ones.single (one_of_sl r5)) (Ones.single (one_of_sl r6))))⟩
end
end Go.Proofs.YtmhapglejjehbaaGreat
end

namespace Go.Proofs.YtmhapglejjehbaaGreat
open Go Go.AI Go.Proofs Go.Proofs.YtmhapglejjehbaaGreat
theorem law_own : ownKnob Tryz.prog.godebug = none := by kernel_rfl
theorem law_laid : laidOutB Tryz.prog = true := by kernel_rfl
def zeroCells (n : Nat) : Array Value := (List.replicate n (Value.int .u64 0)).toArray
theorem rdvInt : RdV Tryz.prog 3 (fun a => ∃ n : Int, a = .int .i64 n) := rdV_int Tryz.underlying3
end Go.Proofs.YtmhapglejjehbaaGreat
