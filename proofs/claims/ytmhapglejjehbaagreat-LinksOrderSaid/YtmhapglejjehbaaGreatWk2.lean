/- The small functions of wide and tern, and those of the references that are like them. -/
import Derived.Test.YtmhapglejjehbaaGreatWk1
set_option linter.all false
set_option linter.unnecessarySimpa false
namespace Go.Proofs.YtmhapglejjehbaaGreat
open Go Go.AI Go.Proofs
theorem and_c (a b : Wide) : FnP Tryz.prog 218 [.agg a.enc, .agg b.enc] (.agg (a.and b).enc) := by
 refine FnP.i Tryz.func218 rfl rfl fun G w => ?_
 repeat (first | apply WK.s | apply WK.b | apply WK.n | apply WK.k | apply WK.label | apply WK.scope | apply WK.inScope | refine WK.exit rfl ?_)
 first | refine WK.g 100 Tryz.ntmps218 (by kernel_rfl) ?_ | refine WK.regD 100 clsOf (by kernel_rfl) Tryz.ntmps218 (by kernel_rfl) (by kernel_rfl) ?_
 intro A hA Q hQ
 simp
 apply hQ
 clear hQ hA
 repeat (first | apply WK.s | apply WK.b | apply WK.n | apply WK.k | apply WK.label | apply WK.scope | apply WK.inScope | refine WK.exit rfl ?_)
 first | refine WK.g 200 Tryz.ntmps218 (by kernel_rfl) ?_ | refine WK.regD 200 clsOf (by kernel_rfl) Tryz.ntmps218 (by kernel_rfl) (by kernel_rfl) ?_
 intro A hA Q hQ
 simp [Wide.enc]
 apply hQ
 clear hQ hA
 repeat (first | apply WK.s | apply WK.b | apply WK.n | apply WK.k | apply WK.label | apply WK.scope | apply WK.inScope | refine WK.exit rfl ?_)
 refine WK.t Tryz.func218 (by simp (maxDischargeDepth := 120) [Tryz.results218, Wide.enc, Wide.and]) (by simp [Wide.enc, Wide.and])
theorem or_c (a b : Wide) : FnP Tryz.prog 220 [.agg a.enc, .agg b.enc] (.agg (a.or b).enc) := by
 refine FnP.i Tryz.func220 rfl rfl fun G w => ?_
 repeat (first | apply WK.s | apply WK.b | apply WK.n | apply WK.k | apply WK.label | apply WK.scope | apply WK.inScope | refine WK.exit rfl ?_)
 first | refine WK.g 100 Tryz.ntmps220 (by kernel_rfl) ?_ | refine WK.regD 100 clsOf (by kernel_rfl) Tryz.ntmps220 (by kernel_rfl) (by kernel_rfl) ?_
 intro A hA Q hQ
 simp
 apply hQ
 clear hQ hA
 repeat (first | apply WK.s | apply WK.b | apply WK.n | apply WK.k | apply WK.label | apply WK.scope | apply WK.inScope | refine WK.exit rfl ?_)
 first | refine WK.g 200 Tryz.ntmps220 (by kernel_rfl) ?_ | refine WK.regD 200 clsOf (by kernel_rfl) Tryz.ntmps220 (by kernel_rfl) (by kernel_rfl) ?_
 intro A hA Q hQ
 simp [Wide.enc]
 apply hQ
 clear hQ hA
 repeat (first | apply WK.s | apply WK.b | apply WK.n | apply WK.k | apply WK.label | apply WK.scope | apply WK.inScope | refine WK.exit rfl ?_)
 refine WK.t Tryz.func220 (by simp (maxDischargeDepth := 120) [Tryz.results220, Wide.enc, Wide.or]) (by simp [Wide.enc, Wide.or])
theorem xor_c (a b : Wide) : FnP Tryz.prog 255 [.agg a.enc, .agg b.enc] (.agg (a.xor b).enc) := by
 refine FnP.i Tryz.func255 rfl rfl fun G w => ?_
 repeat (first | apply WK.s | apply WK.b | apply WK.n | apply WK.k | apply WK.label | apply WK.scope | apply WK.inScope | refine WK.exit rfl ?_)
 first | refine WK.g 100 Tryz.ntmps255 (by kernel_rfl) ?_ | refine WK.regD 100 clsOf (by kernel_rfl) Tryz.ntmps255 (by kernel_rfl) (by kernel_rfl) ?_
 intro A hA Q hQ
 simp
 apply hQ
 clear hQ hA
 repeat (first | apply WK.s | apply WK.b | apply WK.n | apply WK.k | apply WK.label | apply WK.scope | apply WK.inScope | refine WK.exit rfl ?_)
 first | refine WK.g 200 Tryz.ntmps255 (by kernel_rfl) ?_ | refine WK.regD 200 clsOf (by kernel_rfl) Tryz.ntmps255 (by kernel_rfl) (by kernel_rfl) ?_
 intro A hA Q hQ
 simp [Wide.enc]
 apply hQ
 clear hQ hA
 repeat (first | apply WK.s | apply WK.b | apply WK.n | apply WK.k | apply WK.label | apply WK.scope | apply WK.inScope | refine WK.exit rfl ?_)
 refine WK.t Tryz.func255 (by simp (maxDischargeDepth := 120) [Tryz.results255, Wide.enc, Wide.xor]) (by simp [Wide.enc, Wide.xor])
theorem less_c (a b : Wide) : FnP Tryz.prog 215 [.agg a.enc, .agg b.enc] (.agg (a.less b).enc) := by
 refine FnP.i Tryz.func215 rfl rfl fun G w => ?_
 repeat apply WK.s
 refine WK.g 100 Tryz.ntmps215 (by kernel_rfl) ?_
 intro A hA Q hQ
 simp
 apply hQ
 clear hQ hA
 repeat apply WK.s
 refine WK.g 200 Tryz.ntmps215 (by kernel_rfl) ?_
 intro A hA Q hQ
 simp [Wide.enc]
 apply hQ
 clear hQ hA
 refine WK.t Tryz.func215 (by simp (maxDischargeDepth := 120) [Tryz.results215, Wide.enc, Wide.less]) (by simp [Wide.enc, Wide.less])
theorem zero_c (a : Wide) : FnP Tryz.prog 212 [.agg a.enc] (.bool a.zero) := by
 refine FnP.i Tryz.func212 rfl rfl fun G w => ?_
 repeat apply WK.s
 refine WK.g 100 Tryz.ntmps212 (by kernel_rfl) ?_
 intro A hA Q hQ
 simp
 apply hQ
 clear hQ hA
 repeat apply WK.s
 refine WK.g 200 Tryz.ntmps212 (by kernel_rfl) ?_
 intro A hA Q hQ
 simp [Wide.enc]
 apply hQ
 clear hQ hA
 refine WK.t Tryz.func212 (by simp (maxDischargeDepth := 120) [Tryz.results212, Wide.zero]) (by simp [Wide.zero])
theorem clean_c (t : Tern) : FnP Tryz.prog 219 [.agg t.enc] (.agg t.clean.enc) := by
 refine FnP.i Tryz.func219 rfl rfl fun G w => ?_
 repeat (first | apply WK.s | apply WK.b | apply WK.n | apply WK.k | apply WK.label | apply WK.scope | apply WK.inScope | refine WK.exit rfl ?_)
 first | refine WK.g 100 Tryz.ntmps219 (by kernel_rfl) ?_ | refine WK.regD 100 clsOf (by kernel_rfl) Tryz.ntmps219 (by kernel_rfl) (by kernel_rfl) ?_
 intro A hA Q hQ
 simp
 apply hQ
 clear hQ hA
 repeat (first | apply WK.s | apply WK.b | apply WK.n | apply WK.k | apply WK.label | apply WK.scope | apply WK.inScope | refine WK.exit rfl ?_)
 first | refine WK.g 200 Tryz.ntmps219 (by kernel_rfl) ?_ | refine WK.regD 200 clsOf (by kernel_rfl) Tryz.ntmps219 (by kernel_rfl) (by kernel_rfl) ?_
 intro A hA Q hQ
 simp [Tern.enc]
 refine RunQ.call rfl rfl rfl rfl (by rfl) (by simp (maxDischargeDepth := 120) [Wide.enc]) (and_c t.value t.mask) (by simp [Wide.enc]) ?_
 refine RunQ.eval ?_
 simp [Wide.enc]
 apply hQ
 clear hQ hA
 repeat (first | apply WK.s | apply WK.b | apply WK.n | apply WK.k | apply WK.label | apply WK.scope | apply WK.inScope | refine WK.exit rfl ?_)
 refine WK.t Tryz.func219 (by simp (maxDischargeDepth := 120) [Tryz.results219, Tern.enc, Tern.clean]) (by simp [Tern.enc, Tern.clean])
theorem unlike_c (a b m : Wide) : FnP Tryz.prog 250 [.agg a.enc, .agg b.enc, .agg m.enc] (.agg ((a.xor b).and m).enc) := by
 refine FnP.i Tryz.func250 rfl rfl fun G w => ?_
 repeat (first | apply WK.s | apply WK.b | apply WK.n | apply WK.k | apply WK.label | apply WK.scope | apply WK.inScope | refine WK.exit rfl ?_)
 first | refine WK.g 100 Tryz.ntmps250 (by kernel_rfl) ?_ | refine WK.regD 100 clsOf (by kernel_rfl) Tryz.ntmps250 (by kernel_rfl) (by kernel_rfl) ?_
 intro A hA Q hQ
 simp
 apply hQ
 clear hQ hA
 repeat (first | apply WK.s | apply WK.b | apply WK.n | apply WK.k | apply WK.label | apply WK.scope | apply WK.inScope | refine WK.exit rfl ?_)
 first | refine WK.g 200 Tryz.ntmps250 (by kernel_rfl) ?_ | refine WK.regD 200 clsOf (by kernel_rfl) Tryz.ntmps250 (by kernel_rfl) (by kernel_rfl) ?_
 intro A hA Q hQ
 simp
 refine RunQ.call rfl rfl rfl rfl (by rfl) (by simp (maxDischargeDepth := 120)) (xor_c a b) (by simp) ?_
 refine RunQ.eval ?_
 simp
 refine RunQ.call rfl rfl rfl rfl (by rfl) (by simp (maxDischargeDepth := 120)) (and_c (a.xor b) m) (by simp) ?_
 refine RunQ.eval ?_
 simp
 apply hQ
 clear hQ hA
 repeat (first | apply WK.s | apply WK.b | apply WK.n | apply WK.k | apply WK.label | apply WK.scope | apply WK.inScope | refine WK.exit rfl ?_)
 refine WK.t Tryz.func250 (by simp (maxDischargeDepth := 120) [Tryz.results250]) (by simp)
theorem has_c (t : Tern) (v : Wide) : FnP Tryz.prog 217 [.agg t.enc, .agg v.enc] (.bool (t.has v)) := by
 refine FnP.i Tryz.func217 rfl rfl fun G w => ?_
 repeat (first | apply WK.s | apply WK.b | apply WK.n | apply WK.k | apply WK.label | apply WK.scope | apply WK.inScope | refine WK.exit rfl ?_)
 first | refine WK.g 100 Tryz.ntmps217 (by kernel_rfl) ?_ | refine WK.regD 100 clsOf (by kernel_rfl) Tryz.ntmps217 (by kernel_rfl) (by kernel_rfl) ?_
 intro A hA Q hQ
 simp
 apply hQ
 clear hQ hA
 repeat (first | apply WK.s | apply WK.b | apply WK.n | apply WK.k | apply WK.label | apply WK.scope | apply WK.inScope | refine WK.exit rfl ?_)
 first | refine WK.g 200 Tryz.ntmps217 (by kernel_rfl) ?_ | refine WK.regD 200 clsOf (by kernel_rfl) Tryz.ntmps217 (by kernel_rfl) (by kernel_rfl) ?_
 intro A hA Q hQ
 simp [Tern.enc]
 refine RunQ.call rfl rfl rfl rfl (by rfl) (by simp (maxDischargeDepth := 120) [Wide.enc]) (unlike_c t.value v t.mask) (by simp [Wide.enc]) ?_
 refine RunQ.eval ?_
 simp [Wide.enc]
 refine RunQ.call rfl rfl rfl rfl (by rfl) (by simp (maxDischargeDepth := 120) [Wide.enc]) (zero_c ((t.value.xor v).and t.mask)) (by simp [Wide.enc]) ?_
 refine RunQ.eval ?_
 simp [Wide.enc]
 apply hQ
 clear hQ hA
 repeat (first | apply WK.s | apply WK.b | apply WK.n | apply WK.k | apply WK.label | apply WK.scope | apply WK.inScope | refine WK.exit rfl ?_)
 refine WK.t Tryz.func217 (by simp (maxDischargeDepth := 120) [Tryz.results217, Tern.has]) (by simp [Tern.has])
theorem meet_c (a b : Tern) : FnP Tryz.prog 187 [.agg a.enc, .agg b.enc] (.tup [.agg (if a.meetOk b then a.meet b else ternZ).enc, .bool (a.meetOk b)]) := by
 refine FnP.i Tryz.func187 rfl rfl fun G w => ?_
 repeat (first | apply WK.s | apply WK.b | apply WK.n | apply WK.k | apply WK.label | apply WK.scope | apply WK.inScope | refine WK.exit rfl ?_)
 first | refine WK.g 100 Tryz.ntmps187 (by kernel_rfl) ?_ | refine WK.regD 100 clsOf (by kernel_rfl) Tryz.ntmps187 (by kernel_rfl) (by kernel_rfl) ?_
 intro A hA Q hQ
 simp
 apply hQ
 clear hQ hA
 repeat (first | apply WK.s | apply WK.b | apply WK.n | apply WK.k | apply WK.label | apply WK.scope | apply WK.inScope | refine WK.exit rfl ?_)
 first | refine WK.g 200 Tryz.ntmps187 (by kernel_rfl) ?_ | refine WK.regD 200 clsOf (by kernel_rfl) Tryz.ntmps187 (by kernel_rfl) (by kernel_rfl) ?_
 intro A hA Q hQ
 simp [Tern.enc]
 refine RunQ.call rfl rfl rfl rfl (by rfl) (by simp (maxDischargeDepth := 120) [Wide.enc]) (and_c a.mask b.mask) (by simp [Wide.enc]) ?_
 refine RunQ.eval ?_
 simp [Wide.enc]
 refine RunQ.call rfl rfl rfl rfl (by rfl) (by simp (maxDischargeDepth := 120) [Wide.enc, Tern.enc]) (has_c ⟨a.value, a.mask.and b.mask⟩ b.value) (by simp [Wide.enc, Tern.enc]) ?_
 refine RunQ.eval ?_
 simp [Wide.enc, Tern.enc]
 apply hQ
 clear hQ hA
 have e : Tern.has ⟨a.value, a.mask.and b.mask⟩ b.value = a.meetOk b := rfl
 simp only [e]
 repeat (first | apply WK.s | apply WK.b | apply WK.n | apply WK.k | apply WK.label | apply WK.scope | apply WK.inScope | refine WK.exit rfl ?_)
 refine WK.c2 rfl (fun h => ?_) (fun h => ?_)
 · repeat (first | apply WK.s | apply WK.b | apply WK.n | apply WK.k | apply WK.label | apply WK.scope | apply WK.inScope | refine WK.exit rfl ?_)
   first | refine WK.g 300 Tryz.ntmps187 (by kernel_rfl) ?_ | refine WK.regD 300 clsOf (by kernel_rfl) Tryz.ntmps187 (by kernel_rfl) (by kernel_rfl) ?_
   intro A hA Q hQ
   simp
   apply hQ
   clear hQ hA
   simp at h
   repeat (first | apply WK.s | apply WK.b | apply WK.n | apply WK.k | apply WK.label | apply WK.scope | apply WK.inScope | refine WK.exit rfl ?_)
   refine WK.t Tryz.func187 (by simp (maxDischargeDepth := 120) [Tryz.results187, h, Tern.enc, ternZ, wZ_, uZ_]) (by simp [h, Tern.enc, ternZ, wZ_, uZ_])
 · simp at h
   repeat (first | apply WK.s | apply WK.b | apply WK.n | apply WK.k | apply WK.label | apply WK.scope | apply WK.inScope | refine WK.exit rfl ?_)
   first | refine WK.g 400 Tryz.ntmps187 (by kernel_rfl) ?_ | refine WK.regD 400 clsOf (by kernel_rfl) Tryz.ntmps187 (by kernel_rfl) (by kernel_rfl) ?_
   intro A hA Q hQ
   simp [Tern.enc]
   refine RunQ.call rfl rfl rfl rfl (by rfl) (by simp (maxDischargeDepth := 120) [Tern.enc]) (clean_c a) (by simp [Tern.enc]) ?_
   refine RunQ.eval ?_
   simp [Tern.enc]
   refine RunQ.call rfl rfl rfl rfl (by rfl) (by simp (maxDischargeDepth := 120) [Tern.enc]) (clean_c b) (by simp [Tern.enc]) ?_
   refine RunQ.eval ?_
   simp [Tern.enc]
   apply hQ
   clear hQ hA
   repeat (first | apply WK.s | apply WK.b | apply WK.n | apply WK.k | apply WK.label | apply WK.scope | apply WK.inScope | refine WK.exit rfl ?_)
   first | refine WK.g 500 Tryz.ntmps187 (by kernel_rfl) ?_ | refine WK.regD 500 clsOf (by kernel_rfl) Tryz.ntmps187 (by kernel_rfl) (by kernel_rfl) ?_
   intro A hA Q hQ
   simp [Tern.enc]
   refine RunQ.call rfl rfl rfl rfl (by rfl) (by simp (maxDischargeDepth := 120) [Wide.enc]) (or_c a.clean.value b.clean.value) (by simp [Wide.enc]) ?_
   refine RunQ.eval ?_
   simp [Wide.enc]
   refine RunQ.call rfl rfl rfl rfl (by rfl) (by simp (maxDischargeDepth := 120) [Wide.enc, Tern.clean]) (or_c a.mask b.mask) (by simp [Wide.enc, Tern.clean]) ?_
   refine RunQ.eval ?_
   simp [Wide.enc, Tern.clean]
   apply hQ
   clear hQ hA
   repeat (first | apply WK.s | apply WK.b | apply WK.n | apply WK.k | apply WK.label | apply WK.scope | apply WK.inScope | refine WK.exit rfl ?_)
   refine WK.t Tryz.func187 (by simp (maxDischargeDepth := 120) [Tryz.results187, h, Tern.meet, Tern.enc, Tern.clean]) (by simp [h, Tern.meet, Tern.enc, Tern.clean])

theorem cubeAll_c : FnP Tryz.prog 222 [] (.agg (encC cubeZ)) := by
 refine FnP.i Tryz.func222 rfl rfl fun G w => ?_
 repeat (first | apply WK.s | apply WK.b | apply WK.n | apply WK.k | apply WK.label | apply WK.scope | apply WK.inScope | refine WK.exit rfl ?_)
 first | refine WK.g 100 Tryz.ntmps222 (by kernel_rfl) ?_ | refine WK.regD 100 clsOf (by kernel_rfl) Tryz.ntmps222 (by kernel_rfl) (by kernel_rfl) ?_
 intro A hA Q hQ
 simp
 apply hQ
 clear hQ hA
 repeat (first | apply WK.s | apply WK.b | apply WK.n | apply WK.k | apply WK.label | apply WK.scope | apply WK.inScope | refine WK.exit rfl ?_)
 first | refine WK.g 200 Tryz.ntmps222 (by kernel_rfl) ?_ | refine WK.regD 200 clsOf (by kernel_rfl) Tryz.ntmps222 (by kernel_rfl) (by kernel_rfl) ?_
 intro A hA Q hQ
 simp
 apply hQ
 clear hQ hA
 repeat (first | apply WK.s | apply WK.b | apply WK.n | apply WK.k | apply WK.label | apply WK.scope | apply WK.inScope | refine WK.exit rfl ?_)
 refine WK.t Tryz.func222 (by simp (maxDischargeDepth := 120) [Tryz.results222]) (by simp)

theorem each_c (fid : Nat) (caps : List AV) (g : Nat → Tern) (ok : Nat → Bool) (hcl : ClL caps = true)
   (hf : ∀ i : Nat, i < 24 → FnP Tryz.prog fid (.int .i64 i :: caps) (.tup [.agg (g i).enc, .bool (ok i)])) :
   FnP Tryz.prog 185 [.fn fid caps] (.tup [.agg (encC (if (List.range 24).all ok then g else cubeZ)), .bool ((List.range 24).all ok)]) := by
 refine FnP.i Tryz.func185 rfl rfl fun G w => ?_
 repeat (first | apply WK.s | apply WK.b | apply WK.n | apply WK.k | apply WK.label | apply WK.scope | apply WK.inScope | refine WK.exit rfl ?_)
 first | refine WK.g 100 Tryz.ntmps185 (by kernel_rfl) ?_ | refine WK.regD 100 clsOf (by kernel_rfl) Tryz.ntmps185 (by kernel_rfl) (by kernel_rfl) ?_
 intro A hA Q hQ
 simp
 apply hQ
 clear hQ hA
 repeat (first | apply WK.s | apply WK.b | apply WK.n | apply WK.k | apply WK.label | apply WK.scope | apply WK.inScope | refine WK.exit rfl ?_)
 first | refine WK.g 200 Tryz.ntmps185 (by kernel_rfl) ?_ | refine WK.regD 200 clsOf (by kernel_rfl) Tryz.ntmps185 (by kernel_rfl) (by kernel_rfl) ?_
 intro A hA Q hQ
 simp
 apply hQ
 clear hQ hA
 repeat (first | apply WK.s | apply WK.b | apply WK.n | apply WK.k | apply WK.label | apply WK.scope | apply WK.inScope | refine WK.exit rfl ?_)
 first | refine WK.g 300 Tryz.ntmps185 (by kernel_rfl) ?_ | refine WK.regD 300 clsOf (by kernel_rfl) Tryz.ntmps185 (by kernel_rfl) (by kernel_rfl) ?_
 intro A hA Q hQ
 simp
 apply hQ
 clear hQ hA
 repeat (first | apply WK.s | apply WK.b | apply WK.n | apply WK.k | apply WK.label | apply WK.scope | apply WK.inScope | refine WK.exit rfl ?_)
 refine WK.lI (fun n => n) (fun i : Nat => (⟨(upd (upd (upd (upd J 0 (.fn fid caps)) 2 (.ptr 0 0)) 4 (.ptr 100 0)) 8 (.int .i64 i)), (upd (upd B0 0 (.var (encC cubeZ))) 100 (.var (encC fun j => if j < i then g j else cubeZ j))), 0⟩ : St)) (fun i => i ≤ 24 ∧ ∀ j, j < i → ok j = true) (fun i => 24 - i) (0) (by repeat (first | exact TmW.nil | refine TmW.upd ?_ (by simp (maxDischargeDepth := 120) [hcl]))) (by repeat (first | exact BxW.nil | refine BxW.upd ?_ (by simp (maxDischargeDepth := 120) [hcl]))) InjW.id (⟨by omega, by simp⟩) (fun i hi IH => ?_)
 repeat (first | apply WK.s | apply WK.b | apply WK.n | apply WK.k | apply WK.label | apply WK.scope | apply WK.inScope | refine WK.exit rfl ?_)
 first | refine WK.g 400 Tryz.ntmps185 (by kernel_rfl) ?_ | refine WK.regD 400 clsOf (by kernel_rfl) Tryz.ntmps185 (by kernel_rfl) (by kernel_rfl) ?_
 intro A hA Q hQ
 simp
 apply hQ
 clear hQ hA
 repeat (first | apply WK.s | apply WK.b | apply WK.n | apply WK.k | apply WK.label | apply WK.scope | apply WK.inScope | refine WK.exit rfl ?_)
 refine WK.c2 rfl (fun h1 => ?_) (fun h1 => ?_)
 · simp at h1
   have h2 : i < 24 := by omega
   have h3 : i * 4 + 4 ≤ 96 := by omega
   have h6 : IntKind.i64.wrap ((i : Int) + 1) = i + 1 := wrap_i64 (by omega) (by omega)
   repeat (first | apply WK.s | apply WK.b | apply WK.n | apply WK.k | apply WK.label | apply WK.scope | apply WK.inScope | refine WK.exit rfl ?_)
   first | refine WK.g 500 Tryz.ntmps185 (by kernel_rfl) ?_ | refine WK.regD 500 clsOf (by kernel_rfl) Tryz.ntmps185 (by kernel_rfl) (by kernel_rfl) ?_
   intro A hA Q hQ
   simp
   apply hQ
   clear hQ hA
   repeat (first | apply WK.s | apply WK.b | apply WK.n | apply WK.k | apply WK.label | apply WK.scope | apply WK.inScope | refine WK.exit rfl ?_)
   first | refine WK.g 600 Tryz.ntmps185 (by kernel_rfl) ?_ | refine WK.regD 600 clsOf (by kernel_rfl) Tryz.ntmps185 (by kernel_rfl) (by kernel_rfl) ?_
   intro A hA Q hQ
   simp
   refine RunQ.call rfl rfl rfl rfl (by rfl) (by simp (maxDischargeDepth := 120) [hcl]) (hf i h2) (by simp [hcl]) ?_
   refine RunQ.eval ?_
   simp [hcl]
   apply hQ
   clear hQ hA
   repeat (first | apply WK.s | apply WK.b | apply WK.n | apply WK.k | apply WK.label | apply WK.scope | apply WK.inScope | refine WK.exit rfl ?_)
   first | refine WK.g 700 Tryz.ntmps185 (by kernel_rfl) ?_ | refine WK.regD 700 clsOf (by kernel_rfl) Tryz.ntmps185 (by kernel_rfl) (by kernel_rfl) ?_
   intro A hA Q hQ
   simp
   apply hQ
   clear hQ hA
   repeat (first | apply WK.s | apply WK.b | apply WK.n | apply WK.k | apply WK.label | apply WK.scope | apply WK.inScope | refine WK.exit rfl ?_)
   refine WK.c2 rfl (fun h5 => ?_) (fun h5 => ?_)
   · simp at h5
     have hr : (List.range 24).all ok = false := all_range_false h2 h5
     repeat (first | apply WK.s | apply WK.b | apply WK.n | apply WK.k | apply WK.label | apply WK.scope | apply WK.inScope | refine WK.exit rfl ?_)
     first | refine WK.g 800 Tryz.ntmps185 (by kernel_rfl) ?_ | refine WK.regD 800 clsOf (by kernel_rfl) Tryz.ntmps185 (by kernel_rfl) (by kernel_rfl) ?_
     intro A hA Q hQ
     simp
     apply hQ
     clear hQ hA
     repeat (first | apply WK.s | apply WK.b | apply WK.n | apply WK.k | apply WK.label | apply WK.scope | apply WK.inScope | refine WK.exit rfl ?_)
     refine WK.t Tryz.func185 (by simp (maxDischargeDepth := 120) [Tryz.results185, hr]) (by simp [hr])
   · simp at h5
     repeat (first | apply WK.s | apply WK.b | apply WK.n | apply WK.k | apply WK.label | apply WK.scope | apply WK.inScope | refine WK.exit rfl ?_)
     first | refine WK.g 900 Tryz.ntmps185 (by kernel_rfl) ?_ | refine WK.regD 900 clsOf (by kernel_rfl) Tryz.ntmps185 (by kernel_rfl) (by kernel_rfl) ?_
     intro A hA Q hQ
     simp [h1, h2, h3, encC_set]
     apply hQ
     clear hQ hA
     have h7 : encC (fun j => if j = i then g i else if j < i then g j else cubeZ j) = encC (fun j => if j < i + 1 then g j else cubeZ j) :=
       encN_congr _ _ fun j hj => by
         by_cases e : j = i
         · subst e; simp
         · by_cases e2 : j < i
           · simp [e, e2, show j < i + 1 by omega]
           · simp [e, e2, show ¬ j < i + 1 by omega]
     repeat (first | apply WK.s | apply WK.b | apply WK.n | apply WK.k | apply WK.label | apply WK.scope | apply WK.inScope | refine WK.exit rfl ?_)
     first | refine WK.g 1000 Tryz.ntmps185 (by kernel_rfl) ?_ | refine WK.regD 1000 clsOf (by kernel_rfl) Tryz.ntmps185 (by kernel_rfl) (by kernel_rfl) ?_
     intro A hA Q hQ
     simp [h6]
     apply hQ
     clear hQ hA
     repeat (first | apply WK.s | apply WK.b | apply WK.n | apply WK.k | apply WK.label | apply WK.scope | apply WK.inScope | refine WK.exit rfl ?_)
     refine WK.next (fun n => n) (IH (i + 1) (⟨by omega, fun j hj => by by_cases h7 : j = i; (subst h7; exact h5); exact hi.2 j (by omega)⟩) (by first | omega | (dsimp only; omega))) (by repeat (first | exact TmW.nil | refine TmW.upd ?_ (by simp (maxDischargeDepth := 120) [h7, hcl]))) (by repeat (first | exact BxW.nil | refine BxW.upd ?_ (by simp (maxDischargeDepth := 120) [h7, hcl]))) InjW.id
 · simp at h1
   have hr : (List.range 24).all ok = true := all_range_true fun j hj => hi.2 j (by omega)
   repeat (first | apply WK.s | apply WK.b | apply WK.n | apply WK.k | apply WK.label | apply WK.scope | apply WK.inScope | refine WK.exit rfl ?_)
   first | refine WK.g 1100 Tryz.ntmps185 (by kernel_rfl) ?_ | refine WK.regD 1100 clsOf (by kernel_rfl) Tryz.ntmps185 (by kernel_rfl) (by kernel_rfl) ?_
   intro A hA Q hQ
   simp
   apply hQ
   clear hQ hA
   have h8 : encC (fun j => if j < i then g j else cubeZ j) = encC g := encN_congr _ _ fun j hj => by simp [show j < i by omega]
   repeat (first | apply WK.s | apply WK.b | apply WK.n | apply WK.k | apply WK.label | apply WK.scope | apply WK.inScope | refine WK.exit rfl ?_)
   refine WK.t Tryz.func185 (by simp (maxDischargeDepth := 120) [Tryz.results185, hr, h8]) (by simp [hr, h8])
theorem clean1_c (c : Cube) (i : Nat) (h2 : i < 24) : FnP Tryz.prog 221 [.int .i64 i, .iptr (encC c)] (.tup [.agg (c i).clean.enc, .bool true]) := by
 have h1 : (i : Int) < 24 := by omega
 have h3 : 4 ≤ 96 - i * 4 := by omega
 refine FnP.i Tryz.func221 rfl rfl fun G w => ?_
 repeat (first | apply WK.s | apply WK.b | apply WK.n | apply WK.k | apply WK.label | apply WK.scope | apply WK.inScope | refine WK.exit rfl ?_)
 first | refine WK.g 100 Tryz.ntmps221 (by kernel_rfl) ?_ | refine WK.regD 100 clsOf (by kernel_rfl) Tryz.ntmps221 (by kernel_rfl) (by kernel_rfl) ?_
 intro A hA Q hQ
 simp
 apply hQ
 clear hQ hA
 repeat (first | apply WK.s | apply WK.b | apply WK.n | apply WK.k | apply WK.label | apply WK.scope | apply WK.inScope | refine WK.exit rfl ?_)
 first | refine WK.g 200 Tryz.ntmps221 (by kernel_rfl) ?_ | refine WK.regD 200 clsOf (by kernel_rfl) Tryz.ntmps221 (by kernel_rfl) (by kernel_rfl) ?_
 intro A hA Q hQ
 simp [h1, h3, encC_sub, h2]
 refine RunQ.call rfl rfl rfl rfl (by rfl) (by simp (maxDischargeDepth := 120)) (clean_c (c i)) (by simp) ?_
 refine RunQ.eval ?_
 simp
 apply hQ
 clear hQ hA
 repeat (first | apply WK.s | apply WK.b | apply WK.n | apply WK.k | apply WK.label | apply WK.scope | apply WK.inScope | refine WK.exit rfl ?_)
 refine WK.t Tryz.func221 (by simp (maxDischargeDepth := 120) [Tryz.results221]) (by simp)
theorem cclean_c (c : Cube) : FnP Tryz.prog 188 [.agg (encC c)] (.agg (encC (cubeClean c))) := by
 refine FnP.i Tryz.func188 rfl rfl fun G w => ?_
 repeat (first | apply WK.s | apply WK.b | apply WK.n | apply WK.k | apply WK.label | apply WK.scope | apply WK.inScope | refine WK.exit rfl ?_)
 first | refine WK.g 100 Tryz.ntmps188 (by kernel_rfl) ?_ | refine WK.regD 100 clsOf (by kernel_rfl) Tryz.ntmps188 (by kernel_rfl) (by kernel_rfl) ?_
 intro A hA Q hQ
 simp
 apply hQ
 clear hQ hA
 repeat (first | apply WK.s | apply WK.b | apply WK.n | apply WK.k | apply WK.label | apply WK.scope | apply WK.inScope | refine WK.exit rfl ?_)
 refine WK.ghost (Ghost.frzVar 1 rfl rfl) ?_
 repeat (first | apply WK.s | apply WK.b | apply WK.n | apply WK.k | apply WK.label | apply WK.scope | apply WK.inScope | refine WK.exit rfl ?_)
 first | refine WK.g 200 Tryz.ntmps188 (by kernel_rfl) ?_ | refine WK.regD 200 clsOf (by kernel_rfl) Tryz.ntmps188 (by kernel_rfl) (by kernel_rfl) ?_
 intro A hA Q hQ
 simp
 refine RunQ.call rfl rfl rfl rfl (by rfl) (by simp (maxDischargeDepth := 120)) (each_c _ [.iptr (encC c)] (cubeClean c) (fun _ => true) (by simp) (fun i hi => clean1_c c i hi)) (by simp) ?_
 refine RunQ.eval ?_
 simp
 apply hQ
 clear hQ hA
 repeat (first | apply WK.s | apply WK.b | apply WK.n | apply WK.k | apply WK.label | apply WK.scope | apply WK.inScope | refine WK.exit rfl ?_)
 first | refine WK.g 300 Tryz.ntmps188 (by kernel_rfl) ?_ | refine WK.regD 300 clsOf (by kernel_rfl) Tryz.ntmps188 (by kernel_rfl) (by kernel_rfl) ?_
 intro A hA Q hQ
 simp
 apply hQ
 clear hQ hA
 repeat (first | apply WK.s | apply WK.b | apply WK.n | apply WK.k | apply WK.label | apply WK.scope | apply WK.inScope | refine WK.exit rfl ?_)
 refine WK.t Tryz.func188 (by simp (maxDischargeDepth := 120) [Tryz.results188]) (by simp)
theorem meet1_c (a b : Cube) (i : Nat) (h2 : i < 24) : FnP Tryz.prog 186 [.int .i64 i, .iptr (encC a), .iptr (encC b)]
   (.tup [.agg (if (a i).meetOk (b i) then (a i).meet (b i) else ternZ).enc, .bool ((a i).meetOk (b i))]) := by
 have h1 : (i : Int) < 24 := by omega
 have h3 : 4 ≤ 96 - i * 4 := by omega
 refine FnP.i Tryz.func186 rfl rfl fun G w => ?_
 repeat (first | apply WK.s | apply WK.b | apply WK.n | apply WK.k | apply WK.label | apply WK.scope | apply WK.inScope | refine WK.exit rfl ?_)
 first | refine WK.g 100 Tryz.ntmps186 (by kernel_rfl) ?_ | refine WK.regD 100 clsOf (by kernel_rfl) Tryz.ntmps186 (by kernel_rfl) (by kernel_rfl) ?_
 intro A hA Q hQ
 simp
 apply hQ
 clear hQ hA
 repeat (first | apply WK.s | apply WK.b | apply WK.n | apply WK.k | apply WK.label | apply WK.scope | apply WK.inScope | refine WK.exit rfl ?_)
 first | refine WK.g 200 Tryz.ntmps186 (by kernel_rfl) ?_ | refine WK.regD 200 clsOf (by kernel_rfl) Tryz.ntmps186 (by kernel_rfl) (by kernel_rfl) ?_
 intro A hA Q hQ
 simp [h1, h3, encC_sub, h2]
 refine RunQ.call rfl rfl rfl rfl (by rfl) (by simp (maxDischargeDepth := 120)) (meet_c (a i) (b i)) (by simp) ?_
 refine RunQ.eval ?_
 simp
 apply hQ
 clear hQ hA
 repeat (first | apply WK.s | apply WK.b | apply WK.n | apply WK.k | apply WK.label | apply WK.scope | apply WK.inScope | refine WK.exit rfl ?_)
 refine WK.t Tryz.func186 (by simp (maxDischargeDepth := 120) [Tryz.results186]) (by simp)
def meetR (a b : Cube) : Cube := if cubeMeetOk a b then (fun i => if (a i).meetOk (b i) then (a i).meet (b i) else ternZ) else cubeZ
theorem cmeet_c (a b : Cube) : FnP Tryz.prog 145 [.agg (encC a), .agg (encC b)] (.tup [.agg (encC (meetR a b)), .bool (cubeMeetOk a b)]) := by
 refine FnP.i Tryz.func145 rfl rfl fun G w => ?_
 repeat (first | apply WK.s | apply WK.b | apply WK.n | apply WK.k | apply WK.label | apply WK.scope | apply WK.inScope | refine WK.exit rfl ?_)
 first | refine WK.g 100 Tryz.ntmps145 (by kernel_rfl) ?_ | refine WK.regD 100 clsOf (by kernel_rfl) Tryz.ntmps145 (by kernel_rfl) (by kernel_rfl) ?_
 intro A hA Q hQ
 simp
 apply hQ
 clear hQ hA
 repeat (first | apply WK.s | apply WK.b | apply WK.n | apply WK.k | apply WK.label | apply WK.scope | apply WK.inScope | refine WK.exit rfl ?_)
 refine WK.ghost (Ghost.frzVar 2 rfl rfl) ?_
 refine WK.ghost (Ghost.frzVar 3 rfl rfl) ?_
 repeat (first | apply WK.s | apply WK.b | apply WK.n | apply WK.k | apply WK.label | apply WK.scope | apply WK.inScope | refine WK.exit rfl ?_)
 first | refine WK.g 200 Tryz.ntmps145 (by kernel_rfl) ?_ | refine WK.regD 200 clsOf (by kernel_rfl) Tryz.ntmps145 (by kernel_rfl) (by kernel_rfl) ?_
 intro A hA Q hQ
 simp
 refine RunQ.call rfl rfl rfl rfl (by rfl) (by simp (maxDischargeDepth := 120)) (each_c _ [.iptr (encC a), .iptr (encC b)] (fun i => if (a i).meetOk (b i) then (a i).meet (b i) else ternZ) (fun i => (a i).meetOk (b i)) (by simp) (fun i hi => meet1_c a b i hi)) (by simp) ?_
 refine RunQ.eval ?_
 simp
 apply hQ
 clear hQ hA
 repeat (first | apply WK.s | apply WK.b | apply WK.n | apply WK.k | apply WK.label | apply WK.scope | apply WK.inScope | refine WK.exit rfl ?_)
 refine WK.t Tryz.func145 (by simp (maxDischargeDepth := 120) [Tryz.results145, meetR, cubeMeetOk]) (by simp [meetR, cubeMeetOk])
theorem fright_c (f : Int) : FnP Tryz.prog 210 [.int .i64 f] (.bool (fRight f)) := by
 cases h : decide (f ≥ 0)
 all_goals
   refine FnP.i Tryz.func210 rfl rfl fun G w => ?_
   repeat apply WK.s
   refine WK.g 100 Tryz.ntmps210 (by kernel_rfl) ?_
   intro A hA Q hQ
   simp
   apply hQ
   clear hQ hA
   repeat apply WK.s
   refine WK.g 200 Tryz.ntmps210 (by kernel_rfl) ?_
   intro A hA Q hQ
   have hg2 : (A[2]?).bind (·.dst) = some 5 := by rw [hA]; rfl
   simp [h, hg2]
   apply hQ
   clear hQ hA
   refine WK.t Tryz.func210 (by simp (maxDischargeDepth := 120) [Tryz.results210, fRight, h]) (by simp [fRight, h])
def rowsC : List AV := fRows.flatMap rowEnc
@[simp] theorem rowsC_len : rowsC.length = 96 := rfl
theorem rows_c : FnP Tryz.prog 247 [] (.agg rowsC) := by
 refine FnP.i Tryz.func247 rfl rfl fun G w => ?_
 repeat apply WK.s
 refine WK.g 100 Tryz.ntmps247 (by kernel_rfl) ?_
 intro A hA Q hQ
 simp
 apply hQ
 clear hQ hA
 repeat apply WK.s
 refine WK.g 200 Tryz.ntmps247 (by kernel_rfl) ?_
 intro A hA Q hQ
 simp
 apply hQ
 clear hQ hA
 refine WK.t Tryz.func247 (by simp (maxDischargeDepth := 120) [Tryz.results247, rowsC, fRows, rowEnc]) (by simp [rowsC, fRows, rowEnc])
theorem rowEnc_len (r : Int × Int × Bool) : (rowEnc r).length = 4 := rfl
theorem row_sub (f : Int) (h : 0 ≤ f ∧ f < 24) : (rowsC.drop (f.toNat * 4)).take 4 = rowEnc (fRow f) := by
 unfold rowsC
 rw [fm_nth rowEnc_len _ _ (by show f.toNat < 24; omega)]
 unfold fRow; rw [if_pos h]
theorem fat_c (f : Int) : FnP Tryz.prog 214 [.int .i64 f] (.agg (rowEnc (fRow f))) := by
 refine FnP.i Tryz.func214 rfl rfl fun G w => ?_
 repeat apply WK.s
 refine WK.g 100 Tryz.ntmps214 (by kernel_rfl) ?_
 intro A hA Q hQ
 simp
 apply hQ
 clear hQ hA
 repeat apply WK.s
 refine WK.g 200 Tryz.ntmps214 (by kernel_rfl) ?_
 intro A hA Q hQ
 simp
 refine RunQ.call rfl rfl rfl rfl (by rfl) (by simp (maxDischargeDepth := 120)) (fright_c f) (by simp) ?_
 refine RunQ.eval ?_
 simp
 apply hQ
 clear hQ hA
 refine WK.c2 rfl (fun h => ?_) (fun h => ?_)
 · simp [fRight] at h
   have h2 : fRow f = (-1, 0, false) := by unfold fRow; rw [if_neg (by omega)]
   repeat apply WK.s
   refine WK.g 300 Tryz.ntmps214 (by kernel_rfl) ?_
   intro A hA Q hQ
   simp
   apply hQ
   clear hQ hA
   refine WK.t Tryz.func214 (by simp (maxDischargeDepth := 120) [Tryz.results214, h2, rowEnc]) (by simp [h2, rowEnc])
 · simp [fRight] at h
   have h3 : f.toNat * 4 + 4 ≤ 96 := by omega
   repeat (first | apply WK.s | apply WK.k)
   refine WK.g 400 Tryz.ntmps214 (by kernel_rfl) ?_
   intro A hA Q hQ
   simp
   refine RunQ.call rfl rfl rfl rfl (by rfl) (by simp (maxDischargeDepth := 120) [h, h3, row_sub f h, rowEnc_len]) (rows_c) (by simp [h, h3, row_sub f h, rowEnc_len]) ?_
   refine RunQ.eval ?_
   simp [h, h3, row_sub f h, rowEnc_len]
   apply hQ
   clear hQ hA
   refine WK.t Tryz.func214 (by simp (maxDischargeDepth := 120) [Tryz.results214, rowEnc]) (by simp [rowEnc])
theorem fbits_c (f : Int) : FnP Tryz.prog 246 [.int .i64 f] (.int .i64 (fBits f)) := by
 refine FnP.i Tryz.func246 rfl rfl fun G w => ?_
 repeat apply WK.s
 refine WK.g 100 Tryz.ntmps246 (by kernel_rfl) ?_
 intro A hA Q hQ
 simp
 apply hQ
 clear hQ hA
 repeat apply WK.s
 refine WK.g 200 Tryz.ntmps246 (by kernel_rfl) ?_
 intro A hA Q hQ
 simp
 refine RunQ.call rfl rfl rfl rfl (by rfl) (by simp (maxDischargeDepth := 120) [rowEnc]) (fat_c f) (by simp [rowEnc]) ?_
 refine RunQ.eval ?_
 simp [rowEnc]
 apply hQ
 clear hQ hA
 refine WK.t Tryz.func246 (by simp (maxDischargeDepth := 120) [Tryz.results246, fBits]) (by simp [fBits])
theorem low1_c (n : Int) : FnP Tryz.prog 254 [.int .i64 n] (.int .u64 (uI (low64 n))) := by
 refine FnP.i Tryz.func254 rfl rfl fun G w => ?_
 repeat apply WK.s
 refine WK.g 100 Tryz.ntmps254 (by kernel_rfl) ?_
 intro A hA Q hQ
 simp
 apply hQ
 clear hQ hA
 repeat apply WK.s
 refine WK.g 200 Tryz.ntmps254 (by kernel_rfl) ?_
 intro A hA Q hQ
 simp
 apply hQ
 clear hQ hA
 refine WK.c2 rfl (fun h => ?_) (fun h => ?_)
 · simp at h
   have e : uI (low64 n) = 18446744073709551615 := by rw [low64_ge h]; exact low64_big
   repeat apply WK.s
   refine WK.g 300 Tryz.ntmps254 (by kernel_rfl) ?_
   intro A hA Q hQ
   simp
   apply hQ
   clear hQ hA
   refine WK.t Tryz.func254 (by simp (maxDischargeDepth := 120) [Tryz.results254, e]) (by simp [e])
 · simp at h
   by_cases hn : n < 0
   · have e := low64_small (n := 0) (by omega) (by omega)
     have e2 := low64_neg hn
     repeat (first | apply WK.s | apply WK.k)
     refine WK.g 400 Tryz.ntmps254 (by kernel_rfl) ?_
     intro A hA Q hQ
     simp [hn, e]
     apply hQ
     clear hQ hA
     refine WK.t Tryz.func254 (by simp (maxDischargeDepth := 120) [Tryz.results254, e2]) (by simp [e2])
   · have e := low64_small (n := n) (by omega) h
     repeat (first | apply WK.s | apply WK.k)
     refine WK.g 500 Tryz.ntmps254 (by kernel_rfl) ?_
     intro A hA Q hQ
     simp [hn, e]
     apply hQ
     clear hQ hA
     refine WK.t Tryz.func254 (by simp (maxDischargeDepth := 120) [Tryz.results254]) (by simp)
theorem low_c (n : Int) : FnP Tryz.prog 245 [.int .i64 n] (.agg (lowW n).enc) := by
 have hc := clamp_le n
 have e : IntKind.i64.wrap (clamp n - 64) = clamp n - 64 := wrap_i64 (by omega) (by omega)
 refine FnP.i Tryz.func245 rfl rfl fun G w => ?_
 repeat apply WK.s
 refine WK.g 100 Tryz.ntmps245 (by kernel_rfl) ?_
 intro A hA Q hQ
 simp
 apply hQ
 clear hQ hA
 repeat apply WK.s
 refine WK.g 200 Tryz.ntmps245 (by kernel_rfl) ?_
 intro A hA Q hQ
 simp [clamp_eq]
 apply hQ
 clear hQ hA
 repeat apply WK.s
 refine WK.g 300 Tryz.ntmps245 (by kernel_rfl) ?_
 intro A hA Q hQ
 simp [e]
 refine RunQ.call rfl rfl rfl rfl (by rfl) (by simp (maxDischargeDepth := 120)) (low1_c (clamp n - 64)) (by simp) ?_
 refine RunQ.eval ?_
 simp
 refine RunQ.call rfl rfl rfl rfl (by rfl) (by simp (maxDischargeDepth := 120)) (low1_c (clamp n)) (by simp) ?_
 refine RunQ.eval ?_
 simp
 apply hQ
 clear hQ hA
 refine WK.t Tryz.func245 (by simp (maxDischargeDepth := 120) [Tryz.results245, lowW, Wide.enc]) (by simp [lowW, Wide.enc])

theorem otern_c (o : Oxm) : FnP Tryz.prog 223 [.agg o.enc] (.agg o.tern.enc) := by
 refine FnP.i Tryz.func223 rfl rfl fun G w => ?_
 repeat (first | apply WK.s | apply WK.b | apply WK.n | apply WK.k | apply WK.label | apply WK.scope | apply WK.inScope | refine WK.exit rfl ?_)
 first | refine WK.g 100 Tryz.ntmps223 (by kernel_rfl) ?_ | refine WK.regD 100 clsOf (by kernel_rfl) Tryz.ntmps223 (by kernel_rfl) (by kernel_rfl) ?_
 intro A hA Q hQ
 simp
 apply hQ
 clear hQ hA
 repeat (first | apply WK.s | apply WK.b | apply WK.n | apply WK.k | apply WK.label | apply WK.scope | apply WK.inScope | refine WK.exit rfl ?_)
 first | refine WK.g 200 Tryz.ntmps223 (by kernel_rfl) ?_ | refine WK.regD 200 clsOf (by kernel_rfl) Tryz.ntmps223 (by kernel_rfl) (by kernel_rfl) ?_
 intro A hA Q hQ
 simp [Oxm.enc]
 refine RunQ.call rfl rfl rfl rfl (by rfl) (by simp (maxDischargeDepth := 120)) (fright_c o.field) (by simp) ?_
 refine RunQ.eval ?_
 simp
 apply hQ
 clear hQ hA
 repeat (first | apply WK.s | apply WK.b | apply WK.n | apply WK.k | apply WK.label | apply WK.scope | apply WK.inScope | refine WK.exit rfl ?_)
 refine WK.c2 rfl (fun h => ?_) (fun h => ?_)
 · try simp at h
   repeat (first | apply WK.s | apply WK.b | apply WK.n | apply WK.k | apply WK.label | apply WK.scope | apply WK.inScope | refine WK.exit rfl ?_)
   first | refine WK.g 300 Tryz.ntmps223 (by kernel_rfl) ?_ | refine WK.regD 300 clsOf (by kernel_rfl) Tryz.ntmps223 (by kernel_rfl) (by kernel_rfl) ?_
   intro A hA Q hQ
   simp
   apply hQ
   clear hQ hA
   repeat (first | apply WK.s | apply WK.b | apply WK.n | apply WK.k | apply WK.label | apply WK.scope | apply WK.inScope | refine WK.exit rfl ?_)
   refine WK.t Tryz.func223 (by simp (maxDischargeDepth := 120) [Tryz.results223, Oxm.tern, h, Tern.enc, ternZ, wZ_, uZ_]) (by simp [Oxm.tern, h, Tern.enc, ternZ, wZ_, uZ_])
 · try simp at h
   repeat (first | apply WK.s | apply WK.b | apply WK.n | apply WK.k | apply WK.label | apply WK.scope | apply WK.inScope | refine WK.exit rfl ?_)
   first | refine WK.g 400 Tryz.ntmps223 (by kernel_rfl) ?_ | refine WK.regD 400 clsOf (by kernel_rfl) Tryz.ntmps223 (by kernel_rfl) (by kernel_rfl) ?_
   intro A hA Q hQ
   simp [Oxm.enc]
   apply hQ
   clear hQ hA
   repeat (first | apply WK.s | apply WK.b | apply WK.n | apply WK.k | apply WK.label | apply WK.scope | apply WK.inScope | refine WK.exit rfl ?_)
   refine WK.c2 rfl (fun h2 => ?_) (fun h2 => ?_)
   · try simp at h2
     repeat (first | apply WK.s | apply WK.b | apply WK.n | apply WK.k | apply WK.label | apply WK.scope | apply WK.inScope | refine WK.exit rfl ?_)
     first | refine WK.g 500 Tryz.ntmps223 (by kernel_rfl) ?_ | refine WK.regD 500 clsOf (by kernel_rfl) Tryz.ntmps223 (by kernel_rfl) (by kernel_rfl) ?_
     intro A hA Q hQ
     simp [Oxm.enc]
     apply hQ
     clear hQ hA
     repeat (first | apply WK.s | apply WK.b | apply WK.n | apply WK.k | apply WK.label | apply WK.scope | apply WK.inScope | refine WK.exit rfl ?_)
     refine WK.t Tryz.func223 (by simp (maxDischargeDepth := 120) [Tryz.results223, Oxm.tern, h, h2, Tern.enc]) (by simp [Oxm.tern, h, h2, Tern.enc])
   · try simp at h2
     repeat (first | apply WK.s | apply WK.b | apply WK.n | apply WK.k | apply WK.label | apply WK.scope | apply WK.inScope | refine WK.exit rfl ?_)
     first | refine WK.g 600 Tryz.ntmps223 (by kernel_rfl) ?_ | refine WK.regD 600 clsOf (by kernel_rfl) Tryz.ntmps223 (by kernel_rfl) (by kernel_rfl) ?_
     intro A hA Q hQ
     simp [Oxm.enc]
     refine RunQ.call rfl rfl rfl rfl (by rfl) (by simp (maxDischargeDepth := 120)) (fbits_c o.field) (by simp) ?_
     refine RunQ.eval ?_
     simp
     refine RunQ.call rfl rfl rfl rfl (by rfl) (by simp (maxDischargeDepth := 120) [Wide.enc]) (low_c (fBits o.field)) (by simp [Wide.enc]) ?_
     refine RunQ.eval ?_
     simp [Wide.enc]
     apply hQ
     clear hQ hA
     repeat (first | apply WK.s | apply WK.b | apply WK.n | apply WK.k | apply WK.label | apply WK.scope | apply WK.inScope | refine WK.exit rfl ?_)
     refine WK.t Tryz.func223 (by simp (maxDischargeDepth := 120) [Tryz.results223, Oxm.tern, h, h2, Tern.enc]) (by simp [Oxm.tern, h, h2, Tern.enc])
theorem setC_enc (c : Cube) (o : Oxm) (n : Nat) (hn : o.field = n) (hr : fRight o.field = true) : encC (fun j => if j = n then o.tern else c j) = encC (setC c o) := by
 unfold setC
 rw [if_pos hr, hn]
 congr 1
 funext j
 by_cases h : j = n
 · simp [h]
 · have : ¬ (j : Int) = n := by omega
   simp [h, this]
theorem mcube_c (l : List Oxm) (hl : l.length ≤ 1000000) : FnP Tryz.prog 189 [oxmS l] (.agg (encC (matC l))) := by
 unfold oxmS
 refine FnP.i Tryz.func189 rfl rfl fun G w => ?_
 repeat (first | apply WK.s | apply WK.b | apply WK.n | apply WK.k | apply WK.label | apply WK.scope | apply WK.inScope | refine WK.exit rfl ?_)
 first | refine WK.g 100 Tryz.ntmps189 (by kernel_rfl) ?_ | refine WK.regD 100 clsOf (by kernel_rfl) Tryz.ntmps189 (by kernel_rfl) (by kernel_rfl) ?_
 intro A hA Q hQ
 simp
 apply hQ
 clear hQ hA
 repeat (first | apply WK.s | apply WK.b | apply WK.n | apply WK.k | apply WK.label | apply WK.scope | apply WK.inScope | refine WK.exit rfl ?_)
 first | refine WK.g 200 Tryz.ntmps189 (by kernel_rfl) ?_ | refine WK.regD 200 clsOf (by kernel_rfl) Tryz.ntmps189 (by kernel_rfl) (by kernel_rfl) ?_
 intro A hA Q hQ
 simp
 refine RunQ.call rfl rfl rfl rfl (by rfl) (by simp (maxDischargeDepth := 120)) (cubeAll_c) (by simp) ?_
 refine RunQ.eval ?_
 simp
 apply hQ
 clear hQ hA
 repeat (first | apply WK.s | apply WK.b | apply WK.n | apply WK.k | apply WK.label | apply WK.scope | apply WK.inScope | refine WK.exit rfl ?_)
 first | refine WK.g 300 Tryz.ntmps189 (by kernel_rfl) ?_ | refine WK.regD 300 clsOf (by kernel_rfl) Tryz.ntmps189 (by kernel_rfl) (by kernel_rfl) ?_
 intro A hA Q hQ
 simp
 apply hQ
 clear hQ hA
 repeat (first | apply WK.s | apply WK.b | apply WK.n | apply WK.k | apply WK.label | apply WK.scope | apply WK.inScope | refine WK.exit rfl ?_)
 refine WK.lI (fun n => n) (fun i : Nat => (⟨(upd (upd (upd (upd (upd J 2 (.ptr 0 0)) 3 (.ptr 101 0)) 7 (.sl false l.length (oxmL l))) 8 (.int .i64 l.length)) 9 (.int .i64 i)), (upd (upd B0 0 (.var (encC cubeZ))) 101 (.var (encC (matC (l.take i))))), 0⟩ : St)) (fun i => i ≤ l.length) (fun i => l.length - i) (0) (by repeat (first | exact TmW.nil | refine TmW.upd ?_ (by simp (maxDischargeDepth := 120) [matC]))) (by repeat (first | exact BxW.nil | refine BxW.upd ?_ (by simp (maxDischargeDepth := 120) [matC]))) InjW.id (by omega) (fun i hi IH => ?_)
 repeat (first | apply WK.s | apply WK.b | apply WK.n | apply WK.k | apply WK.label | apply WK.scope | apply WK.inScope | refine WK.exit rfl ?_)
 first | refine WK.g 400 Tryz.ntmps189 (by kernel_rfl) ?_ | refine WK.regD 400 clsOf (by kernel_rfl) Tryz.ntmps189 (by kernel_rfl) (by kernel_rfl) ?_
 intro A hA Q hQ
 simp
 apply hQ
 clear hQ hA
 repeat (first | apply WK.s | apply WK.b | apply WK.n | apply WK.k | apply WK.label | apply WK.scope | apply WK.inScope | refine WK.exit rfl ?_)
 refine WK.c2 rfl (fun h1 => ?_) (fun h1 => ?_)
 · simp at h1
   have h2 : i < l.length := by omega
   have h3 : 6 ≤ l.length * 6 - i * 6 := by omega
   have h4 := oxm_sub l i h2
   have h6 : IntKind.i64.wrap ((i : Int) + 1) = i + 1 := wrap_i64 (by omega) (by omega)
   repeat (first | apply WK.s | apply WK.b | apply WK.n | apply WK.k | apply WK.label | apply WK.scope | apply WK.inScope | refine WK.exit rfl ?_)
   first | refine WK.g 500 Tryz.ntmps189 (by kernel_rfl) ?_ | refine WK.regD 500 clsOf (by kernel_rfl) Tryz.ntmps189 (by kernel_rfl) (by kernel_rfl) ?_
   intro A hA Q hQ
   simp [h1, h2, h3, h4]
   apply hQ
   clear hQ hA
   repeat (first | apply WK.s | apply WK.b | apply WK.n | apply WK.k | apply WK.label | apply WK.scope | apply WK.inScope | refine WK.exit rfl ?_)
   first | refine WK.g 600 Tryz.ntmps189 (by kernel_rfl) ?_ | refine WK.regD 600 clsOf (by kernel_rfl) Tryz.ntmps189 (by kernel_rfl) (by kernel_rfl) ?_
   intro A hA Q hQ
   simp [Oxm.enc]
   refine RunQ.call rfl rfl rfl rfl (by rfl) (by simp (maxDischargeDepth := 120)) (fright_c (nth l i).field) (by simp) ?_
   refine RunQ.eval ?_
   simp
   apply hQ
   clear hQ hA
   repeat (first | apply WK.s | apply WK.b | apply WK.n | apply WK.k | apply WK.label | apply WK.scope | apply WK.inScope | refine WK.exit rfl ?_)
   refine WK.c2 rfl (fun h5 => ?_) (fun h5 => ?_)
   · obtain ⟨n, hn⟩ : ∃ n : Nat, (nth l i).field = n := ⟨(nth l i).field.toNat, by simp [fRight] at h5; omega⟩
     have h7 : n < 24 := by simp [fRight] at h5; omega
     have h8 : (n : Int) < 24 := by omega
     have h9 : n * 4 + 4 ≤ 96 := by omega
     repeat (first | apply WK.s | apply WK.b | apply WK.n | apply WK.k | apply WK.label | apply WK.scope | apply WK.inScope | refine WK.exit rfl ?_)
     first | refine WK.g 700 Tryz.ntmps189 (by kernel_rfl) ?_ | refine WK.regD 700 (clsM [(17, 500)]) (by kernel_rfl) Tryz.ntmps189 (by kernel_rfl) (by kernel_rfl) ?_
     intro A hA Q hQ
     simp [Oxm.enc]
     refine RunQ.call rfl rfl rfl rfl (by rfl) (by simp (maxDischargeDepth := 120) [Oxm.enc, hn, h7, h8, h9, encC_set]) (otern_c (nth l i)) (by simp [Oxm.enc, hn, h7, h8, h9, encC_set]) ?_
     refine RunQ.eval ?_
     simp [Oxm.enc, hn, h7, h8, h9, encC_set]
     apply hQ
     clear hQ hA
     repeat (first | apply WK.s | apply WK.b | apply WK.n | apply WK.k | apply WK.label | apply WK.scope | apply WK.inScope | refine WK.exit rfl ?_)
     first | refine WK.g 800 Tryz.ntmps189 (by kernel_rfl) ?_ | refine WK.regD 800 clsOf (by kernel_rfl) Tryz.ntmps189 (by kernel_rfl) (by kernel_rfl) ?_
     intro A hA Q hQ
     simp [h6]
     apply hQ
     clear hQ hA
     repeat (first | apply WK.s | apply WK.b | apply WK.n | apply WK.k | apply WK.label | apply WK.scope | apply WK.inScope | refine WK.exit rfl ?_)
     refine WK.next (fun n => n) (IH (i + 1) (by omega) (by first | omega | (dsimp only; omega))) (by repeat (first | exact TmW.nil | refine TmW.upd ?_ (by simp (maxDischargeDepth := 120) [matC_succ h2, setC_enc _ _ n hn h5, h6]))) (by repeat (first | exact BxW.nil | refine BxW.upd ?_ (by simp (maxDischargeDepth := 120) [matC_succ h2, setC_enc _ _ n hn h5, h6]))) InjW.id
   · try simp at h5
     have e : setC (matC (l.take i)) (nth l i) = matC (l.take i) := by unfold setC; simp [h5]
     repeat (first | apply WK.s | apply WK.b | apply WK.n | apply WK.k | apply WK.label | apply WK.scope | apply WK.inScope | refine WK.exit rfl ?_)
     first | refine WK.g 900 Tryz.ntmps189 (by kernel_rfl) ?_ | refine WK.regD 900 clsOf (by kernel_rfl) Tryz.ntmps189 (by kernel_rfl) (by kernel_rfl) ?_
     intro A hA Q hQ
     simp [h6]
     apply hQ
     clear hQ hA
     repeat (first | apply WK.s | apply WK.b | apply WK.n | apply WK.k | apply WK.label | apply WK.scope | apply WK.inScope | refine WK.exit rfl ?_)
     refine WK.next (fun n => n) (IH (i + 1) (by omega) (by first | omega | (dsimp only; omega))) (by repeat (first | exact TmW.nil | refine TmW.upd ?_ (by simp (maxDischargeDepth := 120) [matC_succ h2, e, h6]))) (by repeat (first | exact BxW.nil | refine BxW.upd ?_ (by simp (maxDischargeDepth := 120) [matC_succ h2, e, h6]))) InjW.id
 · simp at h1
   have e : l.take i = l := List.take_of_length_le (by omega)
   repeat (first | apply WK.s | apply WK.b | apply WK.n | apply WK.k | apply WK.label | apply WK.scope | apply WK.inScope | refine WK.exit rfl ?_)
   first | refine WK.g 1000 Tryz.ntmps189 (by kernel_rfl) ?_ | refine WK.regD 1000 clsOf (by kernel_rfl) Tryz.ntmps189 (by kernel_rfl) (by kernel_rfl) ?_
   intro A hA Q hQ
   simp
   apply hQ
   clear hQ hA
   repeat (first | apply WK.s | apply WK.b | apply WK.n | apply WK.k | apply WK.label | apply WK.scope | apply WK.inScope | refine WK.exit rfl ?_)
   refine WK.t Tryz.func189 (by simp (maxDischargeDepth := 120) [Tryz.results189, e]) (by simp [e])
def Flow.cube (f : Flow) : Cube := cubeClean (matC f.mat)
theorem fcube_c (f : Flow) (hl : f.mat.length ≤ 1000000) : FnP Tryz.prog 146 [.agg f.enc] (.agg (encC (Flow.cube f))) := by
 refine FnP.i Tryz.func146 rfl rfl fun G w => ?_
 repeat (first | apply WK.s | apply WK.b | apply WK.n | apply WK.k | apply WK.label | apply WK.scope | apply WK.inScope | refine WK.exit rfl ?_)
 first | refine WK.g 100 Tryz.ntmps146 (by kernel_rfl) ?_ | refine WK.regD 100 clsOf (by kernel_rfl) Tryz.ntmps146 (by kernel_rfl) (by kernel_rfl) ?_
 intro A hA Q hQ
 simp
 apply hQ
 clear hQ hA
 repeat (first | apply WK.s | apply WK.b | apply WK.n | apply WK.k | apply WK.label | apply WK.scope | apply WK.inScope | refine WK.exit rfl ?_)
 first | refine WK.g 200 Tryz.ntmps146 (by kernel_rfl) ?_ | refine WK.regD 200 clsOf (by kernel_rfl) Tryz.ntmps146 (by kernel_rfl) (by kernel_rfl) ?_
 intro A hA Q hQ
 simp [Flow.enc]
 refine RunQ.call rfl rfl rfl rfl (by rfl) (by simp (maxDischargeDepth := 120) [oxmS]) (mcube_c f.mat hl) (by simp [oxmS]) ?_
 refine RunQ.eval ?_
 simp [oxmS]
 refine RunQ.call rfl rfl rfl rfl (by rfl) (by simp (maxDischargeDepth := 120)) (cclean_c (matC f.mat)) (by simp) ?_
 refine RunQ.eval ?_
 simp
 apply hQ
 clear hQ hA
 repeat (first | apply WK.s | apply WK.b | apply WK.n | apply WK.k | apply WK.label | apply WK.scope | apply WK.inScope | refine WK.exit rfl ?_)
 refine WK.t Tryz.func146 (by simp (maxDischargeDepth := 120) [Tryz.results146, Flow.cube]) (by simp [Flow.cube])

def eqBy {α : Type} [Inhabited α] (p : α → α → Bool) (l m : List α) : Bool := l.length == m.length && (List.range l.length).all fun i => p (nth l i) (nth m i)
theorem eqf_act (fid : Nat) (caps : List AV) (p : Action → Action → Bool) (l m : List Action) (hcl : ClL caps = true) (hl : l.length ≤ 1000000)
   (hf : ∀ x, x ∈ l → ∀ y, y ∈ m → FnP Tryz.prog fid (.agg x.enc :: .agg y.enc :: caps) (.bool (p x y))) :
   FnP Tryz.prog 248 [actS l, actS m, .fn fid caps] (.bool (eqBy p l m)) := by
 unfold actS
 refine FnP.i Tryz.func248 rfl rfl fun G w => ?_
 repeat apply WK.s
 refine WK.g 100 Tryz.ntmps248 (by kernel_rfl) ?_
 intro A hA Q hQ
 simp
 apply hQ
 clear hQ hA
 repeat apply WK.s
 refine WK.g 200 Tryz.ntmps248 (by kernel_rfl) ?_
 intro A hA Q hQ
 simp
 apply hQ
 clear hQ hA
 refine WK.c2 rfl (fun h => ?_) (fun h => ?_)
 · simp at h
   have e : eqBy p l m = false := by unfold eqBy; simp; intro e; omega
   repeat apply WK.s
   refine WK.g 300 Tryz.ntmps248 (by kernel_rfl) ?_
   intro A hA Q hQ
   simp
   apply hQ
   clear hQ hA
   refine WK.t Tryz.func248 (by simp (maxDischargeDepth := 120) [Tryz.results248, e]) (by simp [e])
 · simp at h
   have hlm : l.length = m.length := by omega
   repeat (first | apply WK.s | apply WK.k)
   refine WK.g 400 Tryz.ntmps248 (by kernel_rfl) ?_
   intro A hA Q hQ
   simp
   apply hQ
   clear hQ hA
   repeat (apply WK.b)
   refine WK.lI (fun n => n) (fun i : Nat => (⟨(upd (upd (upd (upd (upd (upd J 0 (.sl false l.length (actL l))) 1 (.sl false m.length (actL m))) 2 (.fn fid caps)) 15 (.sl false l.length (actL l))) 16 (.int .i64 l.length)) 17 (.int .i64 i)), B0, 0⟩ : St)) (fun i => i ≤ l.length ∧ ∀ j, j < i → p (nth l j) (nth m j) = true) (fun i => l.length - i) (0) (by repeat (first | exact TmW.nil | refine TmW.upd ?_ (by simp (maxDischargeDepth := 120) [hcl]))) (by repeat (first | exact BxW.nil | refine BxW.upd ?_ (by simp (maxDischargeDepth := 120) [hcl]))) InjW.id (⟨by omega, by simp⟩) (fun i hi IH => ?_)
   repeat apply WK.s
   refine WK.g 500 Tryz.ntmps248 (by kernel_rfl) ?_
   intro A hA Q hQ
   simp
   apply hQ
   clear hQ hA
   repeat apply WK.s
   refine WK.c2 rfl (fun h1 => ?_) (fun h1 => ?_)
   · simp at h1
     have h2 : i < l.length := by omega
     have h2' : i < m.length := by omega
     have h3 : 11 ≤ l.length * 11 - i * 11 := by omega
     have h3' : 11 ≤ m.length * 11 - i * 11 := by omega
     have h4 := act_sub l i h2
     have h4' := act_sub m i h2'
     have h6 : IntKind.i64.wrap ((i : Int) + 1) = i + 1 := wrap_i64 (by omega) (by omega)
     repeat (first | apply WK.s | apply WK.b | apply WK.k)
     refine WK.g 600 Tryz.ntmps248 (by kernel_rfl) ?_
     intro A hA Q hQ
     simp [h2, h3, h4]
     apply hQ
     clear hQ hA
     repeat apply WK.s
     refine WK.g 700 Tryz.ntmps248 (by kernel_rfl) ?_
     intro A hA Q hQ
     simp [h2', h3', h4']
     apply hQ
     clear hQ hA
     repeat apply WK.s
     refine WK.g 800 Tryz.ntmps248 (by kernel_rfl) ?_
     intro A hA Q hQ
     simp
     refine RunQ.call rfl rfl rfl rfl (by rfl) (by simp (maxDischargeDepth := 120) [hcl]) (hf (nth l i) (nth_mem h2) (nth m i) (nth_mem h2')) (by simp [hcl]) ?_
     refine RunQ.eval ?_
     simp [hcl]
     apply hQ
     clear hQ hA
     refine WK.c2 rfl (fun h5 => ?_) (fun h5 => ?_)
     · simp at h5
       have e : eqBy p l m = false := by unfold eqBy; rw [all_range_false (p := fun i => p (nth l i) (nth m i)) h2 h5]; simp
       repeat apply WK.s
       refine WK.g 900 Tryz.ntmps248 (by kernel_rfl) ?_
       intro A hA Q hQ
       simp
       apply hQ
       clear hQ hA
       refine WK.t Tryz.func248 (by simp (maxDischargeDepth := 120) [Tryz.results248, e]) (by simp [e])
     · simp at h5
       repeat (first | apply WK.n | apply WK.k)
       refine WK.g 1000 Tryz.ntmps248 (by kernel_rfl) ?_
       intro A hA Q hQ
       simp [h6]
       apply hQ
       clear hQ hA
       refine WK.next (fun n => n) (IH (i + 1) (⟨by omega, fun j hj => by by_cases h7 : j = i; (subst h7; exact h5); exact hi.2 j (by omega)⟩) (by first | omega | (dsimp only; omega))) (by repeat (first | exact TmW.nil | refine TmW.upd ?_ (by simp (maxDischargeDepth := 120) [hcl]))) (by repeat (first | exact BxW.nil | refine BxW.upd ?_ (by simp (maxDischargeDepth := 120) [hcl]))) InjW.id
   · simp at h1
     have e : eqBy p l m = true := by unfold eqBy; rw [all_range_true (p := fun i => p (nth l i) (nth m i)) (fun j hj => hi.2 j (by omega))]; simp [hlm]
     repeat (first | apply WK.s | refine WK.exit rfl ?_)
     refine WK.g 1100 Tryz.ntmps248 (by kernel_rfl) ?_
     intro A hA Q hQ
     simp
     apply hQ
     clear hQ hA
     refine WK.t Tryz.func248 (by simp (maxDischargeDepth := 120) [Tryz.results248, e]) (by simp [e])
theorem asame_c (a b : Action) : FnP Tryz.prog 249 [.agg a.enc, .agg b.enc] (.bool (a == b)) := by
 refine FnP.i Tryz.func249 rfl rfl fun G w => ?_
 repeat apply WK.s
 refine WK.g 100 Tryz.ntmps249 (by kernel_rfl) ?_
 intro A hA Q hQ
 simp
 apply hQ
 clear hQ hA
 repeat apply WK.s
 refine WK.g 200 Tryz.ntmps249 (by kernel_rfl) ?_
 intro A hA Q hQ
 simp
 apply hQ
 clear hQ hA
 refine WK.t Tryz.func249 (by simp (maxDischargeDepth := 120) [Tryz.results249]) (by simp)
theorem acsame_c (l m : List Action) (hl : l.length ≤ 1000000) : FnP Tryz.prog 216 [actS l, actS m] (.bool (eqBy (· == ·) l m)) := by
 refine FnP.i Tryz.func216 rfl rfl fun G w => ?_
 repeat apply WK.s
 refine WK.g 100 Tryz.ntmps216 (by kernel_rfl) ?_
 intro A hA Q hQ
 simp
 apply hQ
 clear hQ hA
 repeat apply WK.s
 refine WK.g 200 Tryz.ntmps216 (by kernel_rfl) ?_
 intro A hA Q hQ
 simp
 refine RunQ.call rfl rfl rfl rfl (by rfl) (by simp (maxDischargeDepth := 120) [actS]) (eqf_act 249 [] (· == ·) l m rfl hl (fun x _ y _ => asame_c x y)) (by simp [actS]) ?_
 refine RunQ.eval ?_
 simp [actS]
 apply hQ
 clear hQ hA
 refine WK.t Tryz.func216 (by simp (maxDischargeDepth := 120) [Tryz.results216]) (by simp)
def Inst.same (a b : Inst) : Bool := a.kind == b.kind && a.table == b.table && a.value == b.value && a.mask == b.mask && eqBy (· == ·) a.acts b.acts
theorem isame_c (a b : Inst) (hl : a.acts.length ≤ 1000000) : FnP Tryz.prog 183 [.agg a.enc, .agg b.enc] (.bool (Inst.same a b)) := by
 have w1 := Wide.beq a.value b.value
 have w2 := Wide.beq a.mask b.mask
 cases k1 : a.kind == b.kind
 · refine FnP.i Tryz.func183 rfl rfl fun G w => ?_
   repeat apply WK.s
   refine WK.g 100 Tryz.ntmps183 (by kernel_rfl) ?_
   intro A hA Q hQ
   simp
   apply hQ
   clear hQ hA
   repeat apply WK.s
   refine WK.g 200 Tryz.ntmps183 (by kernel_rfl) ?_
   intro A hA Q hQ
   have hg5 : (A[5]?).bind (·.dst) = some 10 := by rw [hA]; rfl
   have hg12 : (A[12]?).bind (·.dst) = some 17 := by rw [hA]; rfl
   have hg19 : (A[19]?).bind (·.dst) = some 24 := by rw [hA]; rfl
   have hg26 : (A[26]?).bind (·.dst) = some 31 := by rw [hA]; rfl
   simp [Inst.enc, k1, hg5, hg12, hg19, hg26]
   apply hQ
   clear hQ hA
   refine WK.t Tryz.func183 (by simp (maxDischargeDepth := 120) [Tryz.results183, Inst.same, k1]) (by simp [Inst.same, k1])
 cases k2 : a.table == b.table
 · refine FnP.i Tryz.func183 rfl rfl fun G w => ?_
   repeat apply WK.s
   refine WK.g 100 Tryz.ntmps183 (by kernel_rfl) ?_
   intro A hA Q hQ
   simp
   apply hQ
   clear hQ hA
   repeat apply WK.s
   refine WK.g 200 Tryz.ntmps183 (by kernel_rfl) ?_
   intro A hA Q hQ
   have hg5 : (A[5]?).bind (·.dst) = some 10 := by rw [hA]; rfl
   have hg12 : (A[12]?).bind (·.dst) = some 17 := by rw [hA]; rfl
   have hg19 : (A[19]?).bind (·.dst) = some 24 := by rw [hA]; rfl
   have hg26 : (A[26]?).bind (·.dst) = some 31 := by rw [hA]; rfl
   simp [Inst.enc, k1, k2, hg5, hg12, hg19, hg26]
   apply hQ
   clear hQ hA
   refine WK.t Tryz.func183 (by simp (maxDischargeDepth := 120) [Tryz.results183, Inst.same, k1, k2]) (by simp [Inst.same, k1, k2])
 cases k3 : a.value == b.value
 · rw [k3] at w1
   refine FnP.i Tryz.func183 rfl rfl fun G w => ?_
   repeat apply WK.s
   refine WK.g 100 Tryz.ntmps183 (by kernel_rfl) ?_
   intro A hA Q hQ
   simp
   apply hQ
   clear hQ hA
   repeat apply WK.s
   refine WK.g 200 Tryz.ntmps183 (by kernel_rfl) ?_
   intro A hA Q hQ
   have hg5 : (A[5]?).bind (·.dst) = some 10 := by rw [hA]; rfl
   have hg12 : (A[12]?).bind (·.dst) = some 17 := by rw [hA]; rfl
   have hg19 : (A[19]?).bind (·.dst) = some 24 := by rw [hA]; rfl
   have hg26 : (A[26]?).bind (·.dst) = some 31 := by rw [hA]; rfl
   simp [Inst.enc, k1, k2, ← w1, hg5, hg12, hg19, hg26]
   apply hQ
   clear hQ hA
   refine WK.t Tryz.func183 (by simp (maxDischargeDepth := 120) [Tryz.results183, Inst.same, k1, k2, k3]) (by simp [Inst.same, k1, k2, k3])
 rw [k3] at w1
 cases k4 : a.mask == b.mask
 · rw [k4] at w2
   refine FnP.i Tryz.func183 rfl rfl fun G w => ?_
   repeat apply WK.s
   refine WK.g 100 Tryz.ntmps183 (by kernel_rfl) ?_
   intro A hA Q hQ
   simp
   apply hQ
   clear hQ hA
   repeat apply WK.s
   refine WK.g 200 Tryz.ntmps183 (by kernel_rfl) ?_
   intro A hA Q hQ
   have hg5 : (A[5]?).bind (·.dst) = some 10 := by rw [hA]; rfl
   have hg12 : (A[12]?).bind (·.dst) = some 17 := by rw [hA]; rfl
   have hg19 : (A[19]?).bind (·.dst) = some 24 := by rw [hA]; rfl
   have hg26 : (A[26]?).bind (·.dst) = some 31 := by rw [hA]; rfl
   simp [Inst.enc, k1, k2, ← w1, ← w2, hg5, hg12, hg19, hg26]
   apply hQ
   clear hQ hA
   refine WK.t Tryz.func183 (by simp (maxDischargeDepth := 120) [Tryz.results183, Inst.same, k1, k2, k3, k4]) (by simp [Inst.same, k1, k2, k3, k4])
 rw [k4] at w2
 refine FnP.i Tryz.func183 rfl rfl fun G w => ?_
 repeat apply WK.s
 refine WK.g 100 Tryz.ntmps183 (by kernel_rfl) ?_
 intro A hA Q hQ
 simp
 apply hQ
 clear hQ hA
 repeat apply WK.s
 refine WK.g 200 Tryz.ntmps183 (by kernel_rfl) ?_
 intro A hA Q hQ
 have hg5 : (A[5]?).bind (·.dst) = some 10 := by rw [hA]; rfl
 have hg12 : (A[12]?).bind (·.dst) = some 17 := by rw [hA]; rfl
 have hg19 : (A[19]?).bind (·.dst) = some 24 := by rw [hA]; rfl
 have hg26 : (A[26]?).bind (·.dst) = some 31 := by rw [hA]; rfl
 simp [Inst.enc, k1, k2, ← w1, ← w2, hg5, hg12, hg19, hg26]
 refine RunQ.callG rfl rfl (by simp [hg26, actS]) rfl (by rfl) (by simp (maxDischargeDepth := 120) [hg26, actS]) (acsame_c a.acts b.acts hl) (by simp [hg26, actS]) ?_
 refine RunQ.eval ?_
 simp [hg26, actS]
 apply hQ
 clear hQ hA
 refine WK.t Tryz.func183 (by simp (maxDischargeDepth := 120) [Tryz.results183, Inst.same, k1, k2, k3, k4]) (by simp [Inst.same, k1, k2, k3, k4])

theorem iequal_c (l m : List Int) (hl : l.length ≤ 1000000) : FnP Tryz.prog 14 [intS l, intS m] (.bool (eqBy (fun x y => x == y) l m)) := by
 unfold intS
 refine FnP.i Tryz.func14 rfl rfl fun G w => ?_
 repeat (first | apply WK.s | apply WK.b | apply WK.n | apply WK.k | apply WK.label | apply WK.scope | apply WK.inScope | refine WK.exit rfl ?_)
 first | refine WK.g 100 Tryz.ntmps14 (by kernel_rfl) ?_ | refine WK.regD 100 clsOf (by kernel_rfl) Tryz.ntmps14 (by kernel_rfl) (by kernel_rfl) ?_
 intro A hA Q hQ
 simp
 apply hQ
 clear hQ hA
 repeat (first | apply WK.s | apply WK.b | apply WK.n | apply WK.k | apply WK.label | apply WK.scope | apply WK.inScope | refine WK.exit rfl ?_)
 first | refine WK.g 200 Tryz.ntmps14 (by kernel_rfl) ?_ | refine WK.regD 200 clsOf (by kernel_rfl) Tryz.ntmps14 (by kernel_rfl) (by kernel_rfl) ?_
 intro A hA Q hQ
 simp
 apply hQ
 clear hQ hA
 repeat (first | apply WK.s | apply WK.b | apply WK.n | apply WK.k | apply WK.label | apply WK.scope | apply WK.inScope | refine WK.exit rfl ?_)
 refine WK.c2 rfl (fun h => ?_) (fun h => ?_)
 · simp at h
   have e : eqBy (fun x y => x == y) l m = false := by unfold eqBy; simp; intro e; omega
   repeat (first | apply WK.s | apply WK.b | apply WK.n | apply WK.k | apply WK.label | apply WK.scope | apply WK.inScope | refine WK.exit rfl ?_)
   first | refine WK.g 300 Tryz.ntmps14 (by kernel_rfl) ?_ | refine WK.regD 300 clsOf (by kernel_rfl) Tryz.ntmps14 (by kernel_rfl) (by kernel_rfl) ?_
   intro A hA Q hQ
   simp
   apply hQ
   clear hQ hA
   repeat (first | apply WK.s | apply WK.b | apply WK.n | apply WK.k | apply WK.label | apply WK.scope | apply WK.inScope | refine WK.exit rfl ?_)
   refine WK.t Tryz.func14 (by simp (maxDischargeDepth := 120) [Tryz.results14, e]) (by simp [e])
 · simp at h
   have hlm : l.length = m.length := by omega
   repeat (first | apply WK.s | apply WK.b | apply WK.n | apply WK.k | apply WK.label | apply WK.scope | apply WK.inScope | refine WK.exit rfl ?_)
   first | refine WK.g 400 Tryz.ntmps14 (by kernel_rfl) ?_ | refine WK.regD 400 clsOf (by kernel_rfl) Tryz.ntmps14 (by kernel_rfl) (by kernel_rfl) ?_
   intro A hA Q hQ
   simp
   apply hQ
   clear hQ hA
   repeat (first | apply WK.s | apply WK.b | apply WK.n | apply WK.k | apply WK.label | apply WK.scope | apply WK.inScope | refine WK.exit rfl ?_)
   refine WK.lI (fun n => n) (fun i : Nat => (⟨(upd (upd (upd (upd J 0 (.sl false l.length (intL l))) 1 (.sl false m.length (intL m))) 12 (.int .i64 l.length)) 13 (.int .i64 i)), B0, 0⟩ : St)) (fun i => i ≤ l.length ∧ ∀ j, j < i → (nth l j == nth m j) = true) (fun i => l.length - i) (0) (by repeat (first | exact TmW.nil | refine TmW.upd ?_ (by simp (maxDischargeDepth := 120)))) (by repeat (first | exact BxW.nil | refine BxW.upd ?_ (by simp (maxDischargeDepth := 120)))) InjW.id (⟨by omega, by simp⟩) (fun i hi IH => ?_)
   repeat (first | apply WK.s | apply WK.b | apply WK.n | apply WK.k | apply WK.label | apply WK.scope | apply WK.inScope | refine WK.exit rfl ?_)
   first | refine WK.g 500 Tryz.ntmps14 (by kernel_rfl) ?_ | refine WK.regD 500 clsOf (by kernel_rfl) Tryz.ntmps14 (by kernel_rfl) (by kernel_rfl) ?_
   intro A hA Q hQ
   simp
   apply hQ
   clear hQ hA
   repeat (first | apply WK.s | apply WK.b | apply WK.n | apply WK.k | apply WK.label | apply WK.scope | apply WK.inScope | refine WK.exit rfl ?_)
   refine WK.c2 rfl (fun h1 => ?_) (fun h1 => ?_)
   · simp at h1
     have h2 : i < l.length := by omega
     have h2' : i < m.length := by omega
     have h4 := intL_get' l i h2
     have h4' := intL_get' m i h2'
     have h6 : IntKind.i64.wrap ((i : Int) + 1) = i + 1 := wrap_i64 (by omega) (by omega)
     repeat (first | apply WK.s | apply WK.b | apply WK.n | apply WK.k | apply WK.label | apply WK.scope | apply WK.inScope | refine WK.exit rfl ?_)
     first | refine WK.g 600 Tryz.ntmps14 (by kernel_rfl) ?_ | refine WK.regD 600 clsOf (by kernel_rfl) Tryz.ntmps14 (by kernel_rfl) (by kernel_rfl) ?_
     intro A hA Q hQ
     simp
     apply hQ
     clear hQ hA
     repeat (first | apply WK.s | apply WK.b | apply WK.n | apply WK.k | apply WK.label | apply WK.scope | apply WK.inScope | refine WK.exit rfl ?_)
     first | refine WK.g 700 Tryz.ntmps14 (by kernel_rfl) ?_ | refine WK.regD 700 clsOf (by kernel_rfl) Tryz.ntmps14 (by kernel_rfl) (by kernel_rfl) ?_
     intro A hA Q hQ
     simp [h2, h2', h4, h4']
     apply hQ
     clear hQ hA
     repeat (first | apply WK.s | apply WK.b | apply WK.n | apply WK.k | apply WK.label | apply WK.scope | apply WK.inScope | refine WK.exit rfl ?_)
     refine WK.c2 rfl (fun h5 => ?_) (fun h5 => ?_)
     · simp at h5
       have e : eqBy (fun x y => x == y) l m = false := by unfold eqBy; rw [all_range_false (p := fun i => (nth l i == nth m i)) h2 (by simpa using h5)]; simp
       repeat (first | apply WK.s | apply WK.b | apply WK.n | apply WK.k | apply WK.label | apply WK.scope | apply WK.inScope | refine WK.exit rfl ?_)
       first | refine WK.g 800 Tryz.ntmps14 (by kernel_rfl) ?_ | refine WK.regD 800 clsOf (by kernel_rfl) Tryz.ntmps14 (by kernel_rfl) (by kernel_rfl) ?_
       intro A hA Q hQ
       simp
       apply hQ
       clear hQ hA
       repeat (first | apply WK.s | apply WK.b | apply WK.n | apply WK.k | apply WK.label | apply WK.scope | apply WK.inScope | refine WK.exit rfl ?_)
       refine WK.t Tryz.func14 (by simp (maxDischargeDepth := 120) [Tryz.results14, e]) (by simp [e])
     · simp at h5
       repeat (first | apply WK.s | apply WK.b | apply WK.n | apply WK.k | apply WK.label | apply WK.scope | apply WK.inScope | refine WK.exit rfl ?_)
       first | refine WK.g 900 Tryz.ntmps14 (by kernel_rfl) ?_ | refine WK.regD 900 clsOf (by kernel_rfl) Tryz.ntmps14 (by kernel_rfl) (by kernel_rfl) ?_
       intro A hA Q hQ
       simp [h6]
       apply hQ
       clear hQ hA
       repeat (first | apply WK.s | apply WK.b | apply WK.n | apply WK.k | apply WK.label | apply WK.scope | apply WK.inScope | refine WK.exit rfl ?_)
       refine WK.next (fun n => n) (IH (i + 1) (⟨by omega, fun j hj => by by_cases h7 : j = i; (subst h7; simpa using h5); exact hi.2 j (by omega)⟩) (by first | omega | (dsimp only; omega))) (by repeat (first | exact TmW.nil | refine TmW.upd ?_ (by simp (maxDischargeDepth := 120)))) (by repeat (first | exact BxW.nil | refine BxW.upd ?_ (by simp (maxDischargeDepth := 120)))) InjW.id
   · simp at h1
     have e : eqBy (fun x y => x == y) l m = true := by unfold eqBy; rw [all_range_true (p := fun i => (nth l i == nth m i)) (fun j hj => hi.2 j (by omega))]; simp [hlm]
     repeat (first | apply WK.s | apply WK.b | apply WK.n | apply WK.k | apply WK.label | apply WK.scope | apply WK.inScope | refine WK.exit rfl ?_)
     first | refine WK.g 1000 Tryz.ntmps14 (by kernel_rfl) ?_ | refine WK.regD 1000 clsOf (by kernel_rfl) Tryz.ntmps14 (by kernel_rfl) (by kernel_rfl) ?_
     intro A hA Q hQ
     simp
     apply hQ
     clear hQ hA
     repeat (first | apply WK.s | apply WK.b | apply WK.n | apply WK.k | apply WK.label | apply WK.scope | apply WK.inScope | refine WK.exit rfl ?_)
     refine WK.t Tryz.func14 (by simp (maxDischargeDepth := 120) [Tryz.results14, e]) (by simp [e])

def idxI {α : Type} (p : α → Bool) (l : List α) : Int := match l.findIdx? p with | some i => i | none => -1
theorem idxI_some {α : Type} [Inhabited α] {p : α → Bool} {l : List α} {i : Nat} (h : i < l.length) (hp : p (nth l i) = true) (hn : ∀ j, j < i → p (nth l j) = false) : idxI p l = i := by
 unfold idxI
 have : l.findIdx? p = some i := by
   rw [List.findIdx?_eq_some_iff_getElem]
   refine ⟨h, by rw [← nth_eq h]; exact hp, fun j hj => ?_⟩
   rw [← nth_eq (by omega)]; simp [hn j hj]
 rw [this]
theorem idxI_none {α : Type} [Inhabited α] {p : α → Bool} {l : List α} (hn : ∀ j, j < l.length → p (nth l j) = false) : idxI p l = -1 := by
 unfold idxI
 have : l.findIdx? p = none := by
   rw [List.findIdx?_eq_none_iff]
   intro x hx
   obtain ⟨i, hi, rfl⟩ := mem_nth hx
   exact hn i hi
 rw [this]
theorem idxI_ge {α : Type} (p : α → Bool) (l : List α) : decide (idxI p l ≥ 0) = l.any p := by
 unfold idxI
 cases h : l.findIdx? p with
 | none =>
   rw [List.findIdx?_eq_none_iff] at h
   have : l.any p = false := by rw [List.any_eq_false]; intro x hx; simp [h x hx]
   simp [this]
 | some i =>
   rw [List.findIdx?_eq_some_iff_getElem] at h
   obtain ⟨hi, hp, _⟩ := h
   have : l.any p = true := List.any_eq_true.2 ⟨_, List.getElem_mem hi, hp⟩
   simp [this]
theorem indexf_inst (fid : Nat) (caps : List AV) (p : Inst → Bool) (l : List Inst) (hcl : ClL caps = true) (hl : l.length ≤ 1000000)
   (hf : ∀ x, x ∈ l → FnP Tryz.prog fid (.agg x.enc :: caps) (.bool (p x))) :
   FnP Tryz.prog 204 [instS l, .fn fid caps] (.int .i64 (idxI p l)) := by
 unfold instS
 refine FnP.i Tryz.func204 rfl rfl fun G w => ?_
 repeat apply WK.s
 refine WK.g 100 Tryz.ntmps204 (by kernel_rfl) ?_
 intro A hA Q hQ
 simp
 apply hQ
 clear hQ hA
 repeat apply WK.s
 refine WK.g 200 Tryz.ntmps204 (by kernel_rfl) ?_
 intro A hA Q hQ
 simp
 apply hQ
 clear hQ hA
 repeat (apply WK.b)
 refine WK.lI (fun n => n) (fun i : Nat => (⟨(upd (upd (upd (upd J 0 (.sl false l.length (instL l))) 1 (.fn fid caps)) 7 (.int .i64 l.length)) 8 (.int .i64 i)), B0, 0⟩ : St)) (fun i => i ≤ l.length ∧ ∀ j, j < i → p (nth l j) = false) (fun i => l.length - i) (0) (by repeat (first | exact TmW.nil | refine TmW.upd ?_ (by simp (maxDischargeDepth := 120) [hcl]))) (by repeat (first | exact BxW.nil | refine BxW.upd ?_ (by simp (maxDischargeDepth := 120) [hcl]))) InjW.id (⟨by omega, by simp⟩) (fun i hi IH => ?_)
 repeat apply WK.s
 refine WK.g 300 Tryz.ntmps204 (by kernel_rfl) ?_
 intro A hA Q hQ
 simp
 apply hQ
 clear hQ hA
 repeat apply WK.s
 refine WK.c2 rfl (fun h1 => ?_) (fun h1 => ?_)
 · simp at h1
   have h2 : i < l.length := by omega
   have h3 : 7 ≤ l.length * 7 - i * 7 := by omega
   have h4 := inst_sub l i h2
   have h6 : IntKind.i64.wrap ((i : Int) + 1) = i + 1 := wrap_i64 (by omega) (by omega)
   repeat (first | apply WK.s | apply WK.b | apply WK.k)
   refine WK.g 400 Tryz.ntmps204 (by kernel_rfl) ?_
   intro A hA Q hQ
   simp
   apply hQ
   clear hQ hA
   repeat apply WK.s
   refine WK.g 500 Tryz.ntmps204 (by kernel_rfl) ?_
   intro A hA Q hQ
   simp [h2, h3, h4]
   refine RunQ.call rfl rfl rfl rfl (by rfl) (by simp (maxDischargeDepth := 120) [hcl]) (hf (nth l i) (nth_mem h2)) (by simp [hcl]) ?_
   refine RunQ.eval ?_
   simp [hcl]
   apply hQ
   clear hQ hA
   refine WK.c2 rfl (fun h5 => ?_) (fun h5 => ?_)
   · have e := idxI_some h2 h5 hi.2
     repeat apply WK.s
     refine WK.g 600 Tryz.ntmps204 (by kernel_rfl) ?_
     intro A hA Q hQ
     simp
     apply hQ
     clear hQ hA
     refine WK.t Tryz.func204 (by simp (maxDischargeDepth := 120) [Tryz.results204, e]) (by simp [e])
   · repeat (first | apply WK.n | apply WK.k)
     refine WK.g 700 Tryz.ntmps204 (by kernel_rfl) ?_
     intro A hA Q hQ
     simp [h6]
     apply hQ
     clear hQ hA
     refine WK.next (fun n => n) (IH (i + 1) (⟨by omega, fun j hj => by by_cases h7 : j = i; (subst h7; exact h5); exact hi.2 j (by omega)⟩) (by first | omega | (dsimp only; omega))) (by repeat (first | exact TmW.nil | refine TmW.upd ?_ (by simp (maxDischargeDepth := 120) [hcl]))) (by repeat (first | exact BxW.nil | refine BxW.upd ?_ (by simp (maxDischargeDepth := 120) [hcl]))) InjW.id
 · simp at h1
   have e := idxI_none (p := p) (l := l) (fun j hj => hi.2 j (by omega))
   repeat (first | apply WK.s | refine WK.exit rfl ?_)
   refine WK.g 800 Tryz.ntmps204 (by kernel_rfl) ?_
   intro A hA Q hQ
   simp
   apply hQ
   clear hQ hA
   refine WK.t Tryz.func204 (by simp (maxDischargeDepth := 120) [Tryz.results204, e]) (by simp [e])
theorem containsf_inst (fid : Nat) (caps : List AV) (p : Inst → Bool) (l : List Inst) (hcl : ClL caps = true) (hl : l.length ≤ 1000000)
   (hf : ∀ x, x ∈ l → FnP Tryz.prog fid (.agg x.enc :: caps) (.bool (p x))) :
   FnP Tryz.prog 169 [instS l, .fn fid caps] (.bool (l.any p)) := by
 have e := idxI_ge p l
 simp only [ge_iff_le] at e
 refine FnP.i Tryz.func169 rfl rfl fun G w => ?_
 repeat apply WK.s
 refine WK.g 100 Tryz.ntmps169 (by kernel_rfl) ?_
 intro A hA Q hQ
 simp
 apply hQ
 clear hQ hA
 repeat apply WK.s
 refine WK.g 200 Tryz.ntmps169 (by kernel_rfl) ?_
 intro A hA Q hQ
 simp
 refine RunQ.call rfl rfl rfl rfl (by rfl) (by simp (maxDischargeDepth := 120) [hcl]) (indexf_inst fid caps p l hcl hl hf) (by simp [hcl]) ?_
 refine RunQ.eval ?_
 simp [hcl]
 apply hQ
 clear hQ hA
 refine WK.t Tryz.func169 (by simp (maxDischargeDepth := 120) [Tryz.results169, e]) (by simp [e])
def actsPlain (l : List Action) : Bool := decide (l.length ≤ 12)
def instsPlain (l : List Inst) : Bool := decide (l.length ≤ 8) && l.all fun i => actsPlain i.acts
def Flow.plain (f : Flow) : Bool := decide (f.mat.length ≤ 30) && instsPlain f.insts
def FlowMod.plain (m : FlowMod) : Bool := decide (m.mat.length ≤ 30) && instsPlain m.insts
theorem pacts_c (l : List Action) : FnP Tryz.prog 120 [actS l] (.bool (actsPlain l)) := by
 unfold actS
 refine FnP.i Tryz.func120 rfl rfl fun G w => ?_
 repeat apply WK.s
 refine WK.g 100 Tryz.ntmps120 (by kernel_rfl) ?_
 intro A hA Q hQ
 simp
 apply hQ
 clear hQ hA
 repeat apply WK.s
 refine WK.g 200 Tryz.ntmps120 (by kernel_rfl) ?_
 intro A hA Q hQ
 simp
 apply hQ
 clear hQ hA
 have e : decide ((l.length : Int) ≤ 12) = decide (l.length ≤ 12) := decide_eq_decide.2 (by omega)
 refine WK.t Tryz.func120 (by simp (maxDischargeDepth := 120) [Tryz.results120, actsPlain, e]) (by simp [actsPlain, e])
theorem pinst1_c (i : Inst) : FnP Tryz.prog 170 [.agg i.enc] (.bool (!actsPlain i.acts)) := by
 refine FnP.i Tryz.func170 rfl rfl fun G w => ?_
 repeat apply WK.s
 refine WK.g 100 Tryz.ntmps170 (by kernel_rfl) ?_
 intro A hA Q hQ
 simp
 apply hQ
 clear hQ hA
 repeat apply WK.s
 refine WK.g 200 Tryz.ntmps170 (by kernel_rfl) ?_
 intro A hA Q hQ
 simp [Inst.enc]
 refine RunQ.call rfl rfl rfl rfl (by rfl) (by simp (maxDischargeDepth := 120) [actS]) (pacts_c i.acts) (by simp [actS]) ?_
 refine RunQ.eval ?_
 simp [actS]
 apply hQ
 clear hQ hA
 refine WK.t Tryz.func170 (by simp (maxDischargeDepth := 120) [Tryz.results170]) (by simp)
theorem pinsts_c (l : List Inst) : FnP Tryz.prog 118 [instS l] (.bool (instsPlain l)) := by
 unfold instsPlain
 cases h : decide (l.length ≤ 8)
 · have h2 : ¬ ((l.length : Int) ≤ 8) := by simp at h; omega
   refine FnP.i Tryz.func118 rfl rfl fun G w => ?_
   repeat apply WK.s
   refine WK.g 100 Tryz.ntmps118 (by kernel_rfl) ?_
   intro A hA Q hQ
   simp
   apply hQ
   clear hQ hA
   repeat apply WK.s
   refine WK.g 200 Tryz.ntmps118 (by kernel_rfl) ?_
   intro A hA Q hQ
   have hg3 : (A[3]?).bind (·.dst) = some 6 := by rw [hA]; rfl
   simp [instS, h2, hg3]
   apply hQ
   clear hQ hA
   refine WK.t Tryz.func118 (by simp (maxDischargeDepth := 120) [Tryz.results118, h]) (by simp [h])
 · have h2 : ((l.length : Int) ≤ 8) := by simp at h; omega
   have e : (!(l.any fun i => !actsPlain i.acts)) = l.all fun i => actsPlain i.acts := by rw [← List.not_all_eq_any_not, Bool.not_not]
   refine FnP.i Tryz.func118 rfl rfl fun G w => ?_
   repeat apply WK.s
   refine WK.g 100 Tryz.ntmps118 (by kernel_rfl) ?_
   intro A hA Q hQ
   simp
   apply hQ
   clear hQ hA
   repeat apply WK.s
   refine WK.g 200 Tryz.ntmps118 (by kernel_rfl) ?_
   intro A hA Q hQ
   have hg3 : (A[3]?).bind (·.dst) = some 6 := by rw [hA]; rfl
   simp [instS, h2, hg3]
   refine RunQ.callG rfl rfl (by simp [hg3, instS]) rfl (by rfl) (by simp (maxDischargeDepth := 120) [hg3, instS]) (containsf_inst 170 [] (fun i => !actsPlain i.acts) l rfl (by omega) (fun x _ => pinst1_c x)) (by simp [hg3, instS]) ?_
   refine RunQ.eval ?_
   simp [hg3, instS]
   apply hQ
   clear hQ hA
   refine WK.t Tryz.func118 (by simp (maxDischargeDepth := 120) [Tryz.results118, e]) (by simp [e])
theorem pFlow_c (f : Flow) : FnP Tryz.prog 61 [.agg f.enc] (.bool (Flow.plain f)) := by
 unfold Flow.plain
 cases h : decide (f.mat.length ≤ 30)
 · have h2 : ¬ ((f.mat.length : Int) ≤ 30) := by simp at h; omega
   refine FnP.i Tryz.func61 rfl rfl fun G w => ?_
   repeat (first | apply WK.s | apply WK.b | apply WK.n | apply WK.k | apply WK.label | apply WK.scope | apply WK.inScope | refine WK.exit rfl ?_)
   first | refine WK.g 100 Tryz.ntmps61 (by kernel_rfl) ?_ | refine WK.regD 100 clsOf (by kernel_rfl) Tryz.ntmps61 (by kernel_rfl) (by kernel_rfl) ?_
   intro A hA Q hQ
   simp
   apply hQ
   clear hQ hA
   repeat (first | apply WK.s | apply WK.b | apply WK.n | apply WK.k | apply WK.label | apply WK.scope | apply WK.inScope | refine WK.exit rfl ?_)
   first | refine WK.g 200 Tryz.ntmps61 (by kernel_rfl) ?_ | refine WK.regD 200 clsOf (by kernel_rfl) Tryz.ntmps61 (by kernel_rfl) (by kernel_rfl) ?_
   intro A hA Q hQ
   have hg4 : (A[4]?).bind (·.dst) = some 7 := by rw [hA]; rfl
   simp [Flow.enc, h2, hg4]
   apply hQ
   clear hQ hA
   repeat (first | apply WK.s | apply WK.b | apply WK.n | apply WK.k | apply WK.label | apply WK.scope | apply WK.inScope | refine WK.exit rfl ?_)
   refine WK.t Tryz.func61 (by simp (maxDischargeDepth := 120) [Tryz.results61, h]) (by simp [h])
 · have h2 : ((f.mat.length : Int) ≤ 30) := by simp at h; omega
   refine FnP.i Tryz.func61 rfl rfl fun G w => ?_
   repeat (first | apply WK.s | apply WK.b | apply WK.n | apply WK.k | apply WK.label | apply WK.scope | apply WK.inScope | refine WK.exit rfl ?_)
   first | refine WK.g 100 Tryz.ntmps61 (by kernel_rfl) ?_ | refine WK.regD 100 clsOf (by kernel_rfl) Tryz.ntmps61 (by kernel_rfl) (by kernel_rfl) ?_
   intro A hA Q hQ
   simp
   apply hQ
   clear hQ hA
   repeat (first | apply WK.s | apply WK.b | apply WK.n | apply WK.k | apply WK.label | apply WK.scope | apply WK.inScope | refine WK.exit rfl ?_)
   first | refine WK.g 200 Tryz.ntmps61 (by kernel_rfl) ?_ | refine WK.regD 200 clsOf (by kernel_rfl) Tryz.ntmps61 (by kernel_rfl) (by kernel_rfl) ?_
   intro A hA Q hQ
   have hg4 : (A[4]?).bind (·.dst) = some 7 := by rw [hA]; rfl
   simp [Flow.enc, h2, hg4]
   refine RunQ.callG rfl rfl (by simp [hg4, instS]) rfl (by rfl) (by simp (maxDischargeDepth := 120) [hg4, instS]) (pinsts_c f.insts) (by simp [hg4, instS]) ?_
   refine RunQ.eval ?_
   simp [hg4, instS]
   apply hQ
   clear hQ hA
   repeat (first | apply WK.s | apply WK.b | apply WK.n | apply WK.k | apply WK.label | apply WK.scope | apply WK.inScope | refine WK.exit rfl ?_)
   refine WK.t Tryz.func61 (by simp (maxDischargeDepth := 120) [Tryz.results61]) (by simp)

theorem appInt : AppOk Tryz.prog 34 3 1 8 := ⟨by simp, by simp, by simp, by simp, by simp, by simp, by omega, by omega⟩
theorem appAct : AppOk Tryz.prog 96 136 11 88 := ⟨by simp, by simp, by simp, by simp, by simp, by simp, by omega, by omega⟩
def ofA (k : Int) (g : Action → Int) (l : List Action) : List Int := (l.filter fun a => a.kind == k).map g
theorem ofA_succ {k : Int} {g : Action → Int} {l : List Action} {i : Nat} (h : i < l.length) : ofA k g (l.take (i + 1)) = if (nth l i).kind == k then ofA k g (l.take i) ++ [g (nth l i)] else ofA k g (l.take i) := by
 unfold ofA; rw [take_nth h, List.filter_append]
 by_cases hk : (nth l i).kind == k <;> simp [hk]
theorem ofA_len (k : Int) (g : Action → Int) (l : List Action) (i : Nat) : (ofA k g (l.take i)).length ≤ l.length := by
 unfold ofA; rw [List.length_map]
 have h1 := List.length_filter_le (fun a : Action => a.kind == k) (l.take i)
 have h2 := List.length_take_le i l
 have h3 : (l.take i).length ≤ l.length := by simp; omega
 omega
theorem of_c (l : List Action) (k : Int) (fid : Nat) (g : Action → Int) (hl : l.length ≤ 1000000) (hf : ∀ a, FnP Tryz.prog fid [.agg a.enc] (.int .i64 (g a))) :
   FnP Tryz.prog 142 [actS l, .int .i64 k, .fn fid []] (intS (ofA k g l)) := by
 unfold actS
 refine FnP.i Tryz.func142 rfl rfl fun G w => ?_
 repeat (first | apply WK.s | apply WK.b | apply WK.n | apply WK.k | apply WK.label | apply WK.scope | apply WK.inScope | refine WK.exit rfl ?_)
 first | refine WK.g 100 Tryz.ntmps142 (by kernel_rfl) ?_ | refine WK.regD 100 clsOf (by kernel_rfl) Tryz.ntmps142 (by kernel_rfl) (by kernel_rfl) ?_
 intro A hA Q hQ
 simp
 apply hQ
 clear hQ hA
 repeat (first | apply WK.s | apply WK.b | apply WK.n | apply WK.k | apply WK.label | apply WK.scope | apply WK.inScope | refine WK.exit rfl ?_)
 first | refine WK.g 200 Tryz.ntmps142 (by kernel_rfl) ?_ | refine WK.regD 200 clsOf (by kernel_rfl) Tryz.ntmps142 (by kernel_rfl) (by kernel_rfl) ?_
 intro A hA Q hQ
 simp
 apply hQ
 clear hQ hA
 repeat (first | apply WK.s | apply WK.b | apply WK.n | apply WK.k | apply WK.label | apply WK.scope | apply WK.inScope | refine WK.exit rfl ?_)
 refine WK.ghost (Ghost.own 7 900 1 rfl rfl) ?_
 repeat (first | apply WK.s | apply WK.b | apply WK.n | apply WK.k | apply WK.label | apply WK.scope | apply WK.inScope | refine WK.exit rfl ?_)
 first | refine WK.g 300 Tryz.ntmps142 (by kernel_rfl) ?_ | refine WK.regD 300 clsOf (by kernel_rfl) Tryz.ntmps142 (by kernel_rfl) (by kernel_rfl) ?_
 intro A hA Q hQ
 simp
 apply hQ
 clear hQ hA
 repeat (first | apply WK.s | apply WK.b | apply WK.n | apply WK.k | apply WK.label | apply WK.scope | apply WK.inScope | refine WK.exit rfl ?_)
 refine WK.lI (fun _ => 900) (fun i : Nat => (⟨(upd (upd (upd (upd (upd (upd J 1 (.int .i64 k)) 2 (.fn fid [])) 7 (.msl 1 0 (ofA k g (l.take i)).length)) 10 (.sl false l.length (actL l))) 11 (.int .i64 l.length)) 12 (.int .i64 i)), (upd B0 1 (.buf 1 (intL (ofA k g (l.take i))))), 0⟩ : St)) (fun i => i ≤ l.length) (fun i => l.length - i) (0) (by repeat (first | exact TmW.nil | refine TmW.upd ?_ (by simp (maxDischargeDepth := 120) [ofA]))) (by repeat (first | exact BxW.nil | refine BxW.upd ?_ (by simp (maxDischargeDepth := 120) [ofA]))) (by first | exact InjW.id | exact InjW.nil | exact InjW.one | exact InjW.two (by simp) | exact InjW.three (by simp) (by simp) (by simp)) (by omega) (fun i hi IH => ?_)
 repeat (first | apply WK.s | apply WK.b | apply WK.n | apply WK.k | apply WK.label | apply WK.scope | apply WK.inScope | refine WK.exit rfl ?_)
 first | refine WK.g 400 Tryz.ntmps142 (by kernel_rfl) ?_ | refine WK.regD 400 clsOf (by kernel_rfl) Tryz.ntmps142 (by kernel_rfl) (by kernel_rfl) ?_
 intro A hA Q hQ
 simp
 apply hQ
 clear hQ hA
 repeat (first | apply WK.s | apply WK.b | apply WK.n | apply WK.k | apply WK.label | apply WK.scope | apply WK.inScope | refine WK.exit rfl ?_)
 refine WK.c2 rfl (fun h1 => ?_) (fun h1 => ?_)
 · simp at h1
   have h2 : i < l.length := by omega
   have h3 : 11 ≤ l.length * 11 - i * 11 := by omega
   have h4 := act_sub l i h2
   have h6 : IntKind.i64.wrap ((i : Int) + 1) = i + 1 := wrap_i64 (by omega) (by omega)
   have hb : ((ofA k g (l.take i)).length + 1) * 8 ≤ 140737488355328 := by have := ofA_len k g l i; omega
   repeat (first | apply WK.s | apply WK.b | apply WK.n | apply WK.k | apply WK.label | apply WK.scope | apply WK.inScope | refine WK.exit rfl ?_)
   first | refine WK.g 500 Tryz.ntmps142 (by kernel_rfl) ?_ | refine WK.regD 500 clsOf (by kernel_rfl) Tryz.ntmps142 (by kernel_rfl) (by kernel_rfl) ?_
   intro A hA Q hQ
   simp [h2, h3, h4]
   apply hQ
   clear hQ hA
   repeat (first | apply WK.s | apply WK.b | apply WK.n | apply WK.k | apply WK.label | apply WK.scope | apply WK.inScope | refine WK.exit rfl ?_)
   first | refine WK.g 600 Tryz.ntmps142 (by kernel_rfl) ?_ | refine WK.regD 600 clsOf (by kernel_rfl) Tryz.ntmps142 (by kernel_rfl) (by kernel_rfl) ?_
   intro A hA Q hQ
   simp [Action.enc]
   apply hQ
   clear hQ hA
   repeat (first | apply WK.s | apply WK.b | apply WK.n | apply WK.k | apply WK.label | apply WK.scope | apply WK.inScope | refine WK.exit rfl ?_)
   refine WK.c2 rfl (fun h5 => ?_) (fun h5 => ?_)
   · have h5' : ((nth l i).kind == k) = true := h5
     repeat (first | apply WK.s | apply WK.b | apply WK.n | apply WK.k | apply WK.label | apply WK.scope | apply WK.inScope | refine WK.exit rfl ?_)
     first | refine WK.g 700 Tryz.ntmps142 (by kernel_rfl) ?_ | refine WK.regD 700 clsOf (by kernel_rfl) Tryz.ntmps142 (by kernel_rfl) (by kernel_rfl) ?_
     intro A hA Q hQ
     simp
     refine RunQ.call rfl rfl rfl rfl (by rfl) (by simp (maxDischargeDepth := 120) [Action.enc]) (hf (nth l i)) (by simp [Action.enc]) ?_
     refine RunQ.eval ?_
     simp [Action.enc]
     refine RunQ.append 901 appInt rfl rfl rfl rfl rfl rfl rfl (by simp [hb]) rfl (by simp [hb]) (by simp [hb]) (by simp [hb]) (by simp [hb]) ?_
     refine RunQ.eval ?_
     simp [hb]
     apply hQ
     clear hQ hA
     repeat (first | apply WK.s | apply WK.b | apply WK.n | apply WK.k | apply WK.label | apply WK.scope | apply WK.inScope | refine WK.exit rfl ?_)
     first | refine WK.g 800 Tryz.ntmps142 (by kernel_rfl) ?_ | refine WK.regD 800 clsOf (by kernel_rfl) Tryz.ntmps142 (by kernel_rfl) (by kernel_rfl) ?_
     intro A hA Q hQ
     simp [h6]
     apply hQ
     clear hQ hA
     repeat (first | apply WK.s | apply WK.b | apply WK.n | apply WK.k | apply WK.label | apply WK.scope | apply WK.inScope | refine WK.exit rfl ?_)
     refine WK.next (fun _ => 901) (IH (i + 1) (by omega) (by first | omega | (dsimp only; omega))) (by repeat (first | exact TmW.nil | refine TmW.upd ?_ (by simp (maxDischargeDepth := 120) [ofA_succ h2, h5', intL_app, intL_one, h6]))) (by repeat (first | exact BxW.nil | refine BxW.upd ?_ (by simp (maxDischargeDepth := 120) [ofA_succ h2, h5', intL_app, intL_one, h6]))) (by first | exact InjW.id | exact InjW.nil | exact InjW.one | exact InjW.two (by simp) | exact InjW.three (by simp) (by simp) (by simp))
   · have h5' : ((nth l i).kind == k) = false := h5
     repeat (first | apply WK.s | apply WK.b | apply WK.n | apply WK.k | apply WK.label | apply WK.scope | apply WK.inScope | refine WK.exit rfl ?_)
     first | refine WK.g 900 Tryz.ntmps142 (by kernel_rfl) ?_ | refine WK.regD 900 clsOf (by kernel_rfl) Tryz.ntmps142 (by kernel_rfl) (by kernel_rfl) ?_
     intro A hA Q hQ
     simp [h6]
     apply hQ
     clear hQ hA
     repeat (first | apply WK.s | apply WK.b | apply WK.n | apply WK.k | apply WK.label | apply WK.scope | apply WK.inScope | refine WK.exit rfl ?_)
     refine WK.next (fun _ => 1) (IH (i + 1) (by omega) (by first | omega | (dsimp only; omega))) (by repeat (first | exact TmW.nil | refine TmW.upd ?_ (by simp (maxDischargeDepth := 120) [ofA_succ h2, h5', h6]))) (by repeat (first | exact BxW.nil | refine BxW.upd ?_ (by simp (maxDischargeDepth := 120) [ofA_succ h2, h5', h6]))) (by first | exact InjW.id | exact InjW.nil | exact InjW.one | exact InjW.two (by simp) | exact InjW.three (by simp) (by simp) (by simp))
 · simp at h1
   have e : l.take i = l := List.take_of_length_le (by omega)
   rw [e]
   repeat (first | apply WK.s | apply WK.b | apply WK.n | apply WK.k | apply WK.label | apply WK.scope | apply WK.inScope | refine WK.exit rfl ?_)
   first | refine WK.g 1000 Tryz.ntmps142 (by kernel_rfl) ?_ | refine WK.regD 1000 clsOf (by kernel_rfl) Tryz.ntmps142 (by kernel_rfl) (by kernel_rfl) ?_
   intro A hA Q hQ
   simp
   apply hQ
   clear hQ hA
   repeat (first | apply WK.s | apply WK.b | apply WK.n | apply WK.k | apply WK.label | apply WK.scope | apply WK.inScope | refine WK.exit rfl ?_)
   refine WK.ghost (Ghost.frzSl 6 1 rfl rfl) ?_
   repeat (first | apply WK.s | apply WK.b | apply WK.n | apply WK.k | apply WK.label | apply WK.scope | apply WK.inScope | refine WK.exit rfl ?_)
   refine WK.t Tryz.func142 (by simp (maxDischargeDepth := 120) [Tryz.results142, intS]) (by simp [intS])
theorem agroup_c (a : Action) : FnP Tryz.prog 143 [.agg a.enc] (.int .i64 a.group) := by
 refine FnP.i Tryz.func143 rfl rfl fun G w => ?_
 repeat (first | apply WK.s | apply WK.b | apply WK.n | apply WK.k | apply WK.label | apply WK.scope | apply WK.inScope | refine WK.exit rfl ?_)
 first | refine WK.g 100 Tryz.ntmps143 (by kernel_rfl) ?_ | refine WK.regD 100 clsOf (by kernel_rfl) Tryz.ntmps143 (by kernel_rfl) (by kernel_rfl) ?_
 intro A hA Q hQ
 simp
 apply hQ
 clear hQ hA
 repeat (first | apply WK.s | apply WK.b | apply WK.n | apply WK.k | apply WK.label | apply WK.scope | apply WK.inScope | refine WK.exit rfl ?_)
 first | refine WK.g 200 Tryz.ntmps143 (by kernel_rfl) ?_ | refine WK.regD 200 clsOf (by kernel_rfl) Tryz.ntmps143 (by kernel_rfl) (by kernel_rfl) ?_
 intro A hA Q hQ
 simp [Action.enc]
 apply hQ
 clear hQ hA
 repeat (first | apply WK.s | apply WK.b | apply WK.n | apply WK.k | apply WK.label | apply WK.scope | apply WK.inScope | refine WK.exit rfl ?_)
 refine WK.t Tryz.func143 (by simp (maxDischargeDepth := 120) [Tryz.results143]) (by simp)
theorem aGroups_c (l : List Action) (hl : l.length ≤ 1000000) : FnP Tryz.prog 83 [actS l] (intS (ofA 22 Action.group l)) := by
 refine FnP.i Tryz.func83 rfl rfl fun G w => ?_
 repeat (first | apply WK.s | apply WK.b | apply WK.n | apply WK.k | apply WK.label | apply WK.scope | apply WK.inScope | refine WK.exit rfl ?_)
 first | refine WK.g 100 Tryz.ntmps83 (by kernel_rfl) ?_ | refine WK.regD 100 clsOf (by kernel_rfl) Tryz.ntmps83 (by kernel_rfl) (by kernel_rfl) ?_
 intro A hA Q hQ
 simp
 apply hQ
 clear hQ hA
 repeat (first | apply WK.s | apply WK.b | apply WK.n | apply WK.k | apply WK.label | apply WK.scope | apply WK.inScope | refine WK.exit rfl ?_)
 first | refine WK.g 200 Tryz.ntmps83 (by kernel_rfl) ?_ | refine WK.regD 200 clsOf (by kernel_rfl) Tryz.ntmps83 (by kernel_rfl) (by kernel_rfl) ?_
 intro A hA Q hQ
 simp
 refine RunQ.call rfl rfl rfl rfl (by rfl) (by simp (maxDischargeDepth := 120)) (of_c l 22 143 Action.group hl agroup_c) (by simp) ?_
 refine RunQ.eval ?_
 simp
 apply hQ
 clear hQ hA
 repeat (first | apply WK.s | apply WK.b | apply WK.n | apply WK.k | apply WK.label | apply WK.scope | apply WK.inScope | refine WK.exit rfl ?_)
 refine WK.t Tryz.func83 (by simp (maxDischargeDepth := 120) [Tryz.results83]) (by simp)
end Go.Proofs.YtmhapglejjehbaaGreat
