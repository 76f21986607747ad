/- Matches: what is wrong with one, by both sides. -/
import Derived.Test.YtibaiiibjnnlkaaWk6
import Derived.Test.YtibaiiibjnnlkaaAf
set_option linter.all false
set_option linter.unnecessarySimpa false
section
set_option linter.unusedVariables false
set_option linter.unusedSimpArgs false
namespace Go.Proofs.Ytibaiiibjnnlkaa
open Go Go.AI Go.Proofs
attribute [local irreducible] FnP FnO FnB FnT FnSeq WK RunQ RunQW RunX RunXW

theorem indexf_oxm (fid : Nat) (caps : List AV) (p : Oxm → Bool) (l : List Oxm) (hcl : ClL caps = true) (hl : l.length ≤ 1000000)
    (hf : ∀ x, x ∈ l → FnP Try.prog fid (.agg x.enc :: caps) (.bool (p x))) :
    FnP Try.prog 69 [oxmS l, .fn fid caps] (.int .i64 (idxI p l)) := by
  unfold oxmS
  refine FnP.intro Try.func69 rfl rfl fun G w => ?_
  repeat (first | refine WK.seq ?_ | refine WK.block ?_ | refine WK.inBlock ?_ | refine WK.skip ?_ | refine WK.label ?_ | refine WK.scope ?_ | refine WK.inScope ?_ | refine WK.exit rfl ?_)
  first | refine WK.reg 100 Try.ntmps69 (by kernel_rfl) ?_ | refine WK.regD 100 clsOf (by kernel_rfl) Try.ntmps69 (by kernel_rfl) (by kernel_rfl) ?_
  intro A hA Q hQ
  simp
  refine hQ _ _ ?_
  clear hQ hA
  repeat (first | refine WK.seq ?_ | refine WK.block ?_ | refine WK.inBlock ?_ | refine WK.skip ?_ | refine WK.label ?_ | refine WK.scope ?_ | refine WK.inScope ?_ | refine WK.exit rfl ?_)
  first | refine WK.reg 200 Try.ntmps69 (by kernel_rfl) ?_ | refine WK.regD 200 clsOf (by kernel_rfl) Try.ntmps69 (by kernel_rfl) (by kernel_rfl) ?_
  intro A hA Q hQ
  simp
  refine hQ _ _ ?_
  clear hQ hA
  repeat (first | refine WK.seq ?_ | refine WK.block ?_ | refine WK.inBlock ?_ | refine WK.skip ?_ | refine WK.label ?_ | refine WK.scope ?_ | refine WK.inScope ?_ | refine WK.exit rfl ?_)
  refine WK.loopI (fun n => n) (fun i : Nat => (⟨(upd (upd (upd (upd J 0 (.sl false l.length (oxmL l))) 1 (.fn fid caps)) 7 (.int .i64 l.length)) 8 (.int .i64 i)), B0, 0⟩ : St)) (fun i => i ≤ l.length ∧ ∀ j, j < i → p (nth l j) = false) (fun i => l.length - i) (0) (by repeat (first | exact TmW.nil | refine TmW.upd ?_ (by simp (maxDischargeDepth := 120) [hcl]))) (by repeat (first | exact BxW.nil | refine BxW.upd ?_ (by simp (maxDischargeDepth := 120) [hcl]))) (by first | exact InjW.id | exact InjW.nil | exact InjW.one | exact InjW.two (by simp) | exact InjW.three (by simp) (by simp) (by simp)) (⟨by omega, by simp⟩) (fun i hi IH => ?_)
  repeat (first | refine WK.seq ?_ | refine WK.block ?_ | refine WK.inBlock ?_ | refine WK.skip ?_ | refine WK.label ?_ | refine WK.scope ?_ | refine WK.inScope ?_ | refine WK.exit rfl ?_)
  first | refine WK.reg 300 Try.ntmps69 (by kernel_rfl) ?_ | refine WK.regD 300 clsOf (by kernel_rfl) Try.ntmps69 (by kernel_rfl) (by kernel_rfl) ?_
  intro A hA Q hQ
  simp
  refine hQ _ _ ?_
  clear hQ hA
  repeat (first | refine WK.seq ?_ | refine WK.block ?_ | refine WK.inBlock ?_ | refine WK.skip ?_ | refine WK.label ?_ | refine WK.scope ?_ | refine WK.inScope ?_ | refine WK.exit rfl ?_)
  refine WK.cond2 rfl (fun h1 => ?_) (fun h1 => ?_)
  · simp at h1
    have h2 : i < l.length := by omega
    have h3 : 6 ≤ l.length * 6 - i * 6 := by omega
    have h4 := oxm_sub l i h2
    have h6 : IntKind.i64.wrap ((i : Int) + 1) = i + 1 := wrap_i64 (by omega) (by omega)
    repeat (first | refine WK.seq ?_ | refine WK.block ?_ | refine WK.inBlock ?_ | refine WK.skip ?_ | refine WK.label ?_ | refine WK.scope ?_ | refine WK.inScope ?_ | refine WK.exit rfl ?_)
    first | refine WK.reg 400 Try.ntmps69 (by kernel_rfl) ?_ | refine WK.regD 400 clsOf (by kernel_rfl) Try.ntmps69 (by kernel_rfl) (by kernel_rfl) ?_
    intro A hA Q hQ
    simp
    refine hQ _ _ ?_
    clear hQ hA
    repeat (first | refine WK.seq ?_ | refine WK.block ?_ | refine WK.inBlock ?_ | refine WK.skip ?_ | refine WK.label ?_ | refine WK.scope ?_ | refine WK.inScope ?_ | refine WK.exit rfl ?_)
    first | refine WK.reg 500 Try.ntmps69 (by kernel_rfl) ?_ | refine WK.regD 500 clsOf (by kernel_rfl) Try.ntmps69 (by kernel_rfl) (by kernel_rfl) ?_
    intro A hA Q hQ
    simp [h2, h3, h4]
    refine RunQ.call rfl rfl rfl rfl (by rfl) (by simp (maxDischargeDepth := 120) [hcl]) (hf (nth l i) (nth_mem h2)) (by simp [hcl]) ?_
    refine RunQ.eval ?_
    simp [hcl]
    refine hQ _ _ ?_
    clear hQ hA
    repeat (first | refine WK.seq ?_ | refine WK.block ?_ | refine WK.inBlock ?_ | refine WK.skip ?_ | refine WK.label ?_ | refine WK.scope ?_ | refine WK.inScope ?_ | refine WK.exit rfl ?_)
    refine WK.cond2 rfl (fun h5 => ?_) (fun h5 => ?_)
    · have e := idxI_some h2 h5 hi.2
      repeat (first | refine WK.seq ?_ | refine WK.block ?_ | refine WK.inBlock ?_ | refine WK.skip ?_ | refine WK.label ?_ | refine WK.scope ?_ | refine WK.inScope ?_ | refine WK.exit rfl ?_)
      first | refine WK.reg 600 Try.ntmps69 (by kernel_rfl) ?_ | refine WK.regD 600 clsOf (by kernel_rfl) Try.ntmps69 (by kernel_rfl) (by kernel_rfl) ?_
      intro A hA Q hQ
      simp
      refine hQ _ _ ?_
      clear hQ hA
      repeat (first | refine WK.seq ?_ | refine WK.block ?_ | refine WK.inBlock ?_ | refine WK.skip ?_ | refine WK.label ?_ | refine WK.scope ?_ | refine WK.inScope ?_ | refine WK.exit rfl ?_)
      refine WK.ret Try.func69 (by simp (maxDischargeDepth := 120) [Try.results69, e]) (by simp [e])
    · repeat (first | refine WK.seq ?_ | refine WK.block ?_ | refine WK.inBlock ?_ | refine WK.skip ?_ | refine WK.label ?_ | refine WK.scope ?_ | refine WK.inScope ?_ | refine WK.exit rfl ?_)
      first | refine WK.reg 700 Try.ntmps69 (by kernel_rfl) ?_ | refine WK.regD 700 clsOf (by kernel_rfl) Try.ntmps69 (by kernel_rfl) (by kernel_rfl) ?_
      intro A hA Q hQ
      simp [h6]
      refine hQ _ _ ?_
      clear hQ hA
      repeat (first | refine WK.seq ?_ | refine WK.block ?_ | refine WK.inBlock ?_ | refine WK.skip ?_ | refine WK.label ?_ | refine WK.scope ?_ | refine WK.inScope ?_ | refine WK.exit rfl ?_)
      refine WK.next (fun n => n) (IH (i + 1) (⟨by omega, fun j hj => by by_cases h7 : j = i; (subst h7; exact h5); exact hi.2 j (by omega)⟩) (by first | omega | (dsimp only; omega))) (by repeat (first | exact TmW.nil | refine TmW.upd ?_ (by simp (maxDischargeDepth := 120) [hcl]))) (by repeat (first | exact BxW.nil | refine BxW.upd ?_ (by simp (maxDischargeDepth := 120) [hcl]))) (by first | exact InjW.id | exact InjW.nil | exact InjW.one | exact InjW.two (by simp) | exact InjW.three (by simp) (by simp) (by simp))
  · simp at h1
    have e := idxI_none (p := p) (l := l) (fun j hj => hi.2 j (by omega))
    repeat (first | refine WK.seq ?_ | refine WK.block ?_ | refine WK.inBlock ?_ | refine WK.skip ?_ | refine WK.label ?_ | refine WK.scope ?_ | refine WK.inScope ?_ | refine WK.exit rfl ?_)
    first | refine WK.reg 800 Try.ntmps69 (by kernel_rfl) ?_ | refine WK.regD 800 clsOf (by kernel_rfl) Try.ntmps69 (by kernel_rfl) (by kernel_rfl) ?_
    intro A hA Q hQ
    simp
    refine hQ _ _ ?_
    clear hQ hA
    repeat (first | refine WK.seq ?_ | refine WK.block ?_ | refine WK.inBlock ?_ | refine WK.skip ?_ | refine WK.label ?_ | refine WK.scope ?_ | refine WK.inScope ?_ | refine WK.exit rfl ?_)
    refine WK.ret Try.func69 (by simp (maxDischargeDepth := 120) [Try.results69, e]) (by simp [e])
theorem containsf_oxm (fid : Nat) (caps : List AV) (p : Oxm → Bool) (l : List Oxm) (hcl : ClL caps = true) (hl : l.length ≤ 1000000)
    (hf : ∀ x, x ∈ l → FnP Try.prog fid (.agg x.enc :: caps) (.bool (p x))) :
    FnP Try.prog 53 [oxmS l, .fn fid caps] (.bool (l.any p)) := by
  have e := idxI_ge p l
  simp only [ge_iff_le] at e
  refine FnP.intro Try.func53 rfl rfl fun G w => ?_
  repeat (first | refine WK.seq ?_ | refine WK.block ?_ | refine WK.inBlock ?_ | refine WK.skip ?_ | refine WK.label ?_ | refine WK.scope ?_ | refine WK.inScope ?_ | refine WK.exit rfl ?_)
  first | refine WK.reg 100 Try.ntmps53 (by kernel_rfl) ?_ | refine WK.regD 100 clsOf (by kernel_rfl) Try.ntmps53 (by kernel_rfl) (by kernel_rfl) ?_
  intro A hA Q hQ
  simp
  refine hQ _ _ ?_
  clear hQ hA
  repeat (first | refine WK.seq ?_ | refine WK.block ?_ | refine WK.inBlock ?_ | refine WK.skip ?_ | refine WK.label ?_ | refine WK.scope ?_ | refine WK.inScope ?_ | refine WK.exit rfl ?_)
  first | refine WK.reg 200 Try.ntmps53 (by kernel_rfl) ?_ | refine WK.regD 200 clsOf (by kernel_rfl) Try.ntmps53 (by kernel_rfl) (by kernel_rfl) ?_
  intro A hA Q hQ
  simp
  refine RunQ.call rfl rfl rfl rfl (by rfl) (by simp (maxDischargeDepth := 120) [hcl]) (indexf_oxm fid caps p l hcl hl hf) (by simp [hcl]) ?_
  refine RunQ.eval ?_
  simp [hcl]
  refine hQ _ _ ?_
  clear hQ hA
  repeat (first | refine WK.seq ?_ | refine WK.block ?_ | refine WK.inBlock ?_ | refine WK.skip ?_ | refine WK.label ?_ | refine WK.scope ?_ | refine WK.inScope ?_ | refine WK.exit rfl ?_)
  refine WK.ret Try.func53 (by simp (maxDischargeDepth := 120) [Try.results53, e]) (by simp [e])
theorem mcheck_c (l : List Oxm) (hl : l.length ≤ 1000000) : FnP Try.prog 33 [oxmS l] (.agg (mF (mCheck l))) := by
  have b10 := mbad_c 10
  have b9 := mbad_c 9
  unfold oxmS
  refine FnP.intro Try.func33 rfl rfl fun G w => ?_
  repeat' (first
   | refine WK.seq ?_
   | refine WK.block ?_
   | refine WK.inBlock ?_
   | refine WK.skip ?_
   | refine WK.label ?_
   | refine WK.scope ?_
   | refine WK.inScope ?_
   | refine WK.exit rfl ?_
   | refine WK.condT rfl ?_
   | refine WK.condF rfl ?_
   | (refine Hid.h hQ _ _ ?_; clear hQ hA)
   | refine WK.condAny rfl ?_ ?_
   | (refine WK.cond2 rfl (fun h => ?_) (fun h => ?_) <;> (first | (simp [*] at h; done) | (have h2 := h; simp at h2; exfalso; omega) | (have h2 := h; simp at h2; try simp only [Bool.not_eq_true', Bool.not_eq_false'] at h) | skip))
   | (refine WK.regH Try.ntmps33 (by kernel_rfl) ?_; intro A hA Q hQ; simp [*])
   | (refine WK.regX (by kernel_rfl) Try.ntmps33 (by kernel_rfl) ?_; intro A hA Q hQ; simp [*])
   | (refine Hid.h hQ _ _ _ (by decide +kernel) ?_; clear hQ hA)
   | fail)
  repeat (first | refine WK.seq ?_ | refine WK.block ?_ | refine WK.inBlock ?_ | refine WK.skip ?_ | refine WK.label ?_ | refine WK.scope ?_ | refine WK.inScope ?_ | refine WK.exit rfl ?_)
  refine WK.loopI (fun n => n) (fun i : Nat => (⟨(upd (upd (upd (upd (upd J 0 (.sl false l.length (oxmL l))) 2 (.ptr 0 0)) 5 (.sl false l.length (oxmL l))) 6 (.int .i64 l.length)) 7 (.int .i64 i)), (upd B0 0 (.var [.junk, .junk, .junk])), 0⟩ : St)) (fun i => i ≤ l.length ∧ mCheck l = mCheckF (l.take i) (l.drop i)) (fun i => l.length - i) (0) (by repeat (first | exact TmW.nil | refine TmW.upd ?_ (by simp (maxDischargeDepth := 120)))) (by repeat (first | exact BxW.nil | refine BxW.upd ?_ (by simp (maxDischargeDepth := 120)))) (by first | exact InjW.id | exact InjW.nil | exact InjW.one | exact InjW.two (by simp) | exact InjW.three (by simp) (by simp) (by simp)) (⟨by omega, rfl⟩) (fun i hi IH => ?_)
  by_cases h1 : i < l.length
  · have g4 := oxm_sub l i h1
    have g3 : 6 ≤ l.length * 6 - i * 6 := by omega
    have g6 : IntKind.i64.wrap ((i : Int) + 1) = i + 1 := wrap_i64 (by omega) (by omega)
    obtain ⟨hp1, hp2⟩ := oxm_part l i (by omega)
    have hst := hi.2
    rw [mCheck_at h1] at hst
    have cc := containsf_oxm 54 [.iptr (nth l i).enc] (fun p => p.field == (nth l i).field) (l.take i) (by simp [ClL, Cl]) (by omega) (fun x _ => check1_c x (nth l i))
    have cm := met_c (l.take i) (nth l i).field (by omega)
    unfold oxmS at cc cm
    rw [hp2] at cc cm
    have hcl : ClL (oxmL (l.take i)) = true := oxmL_cl _
    have hln : (oxmL (l.take i)).length = i * 6 := by rw [oxmL_len, hp2]
    obtain ⟨o, ho⟩ : ∃ o, nth l i = o := ⟨_, rfl⟩
    rw [ho] at g4 hst cc cm
    obtain ⟨z1, hz1⟩ : ∃ z, ((l.take i).any fun p => p.field == o.field) = z := ⟨_, rfl⟩
    obtain ⟨z2, hz2⟩ : ∃ z, mMet (l.take i) o.field = z := ⟨_, rfl⟩
    rw [hz1] at cc hst
    rw [hz2] at cm hst
    obtain ⟨K, hK⟩ : ∃ K, oxmL (l.take i) = K := ⟨_, rfl⟩
    rw [hK] at cc cm hp1 hcl hln
    have hle := hi.1
    clear hz1 hz2 hK ho hi hp2
    unfold Oxm.enc at g4 cc
    cases z1
    case true =>
      rw [if_pos rfl] at hst
      rw [hst]
      clear cm b9
      repeat' (first
       | refine WK.seq ?_
       | refine WK.block ?_
       | refine WK.inBlock ?_
       | refine WK.skip ?_
       | refine WK.label ?_
       | refine WK.scope ?_
       | refine WK.inScope ?_
       | refine WK.exit rfl ?_
       | refine WK.condT rfl ?_
       | refine WK.condF rfl ?_
       | (refine Hid.h hQ _ _ ?_; clear hQ hA)
       | refine WK.condAny rfl ?_ ?_
       | (refine WK.cond2 rfl (fun h => ?_) (fun h => ?_) <;> (first | (simp [*] at h; done) | (have h2 := h; simp at h2; exfalso; omega) | (have h2 := h; simp at h2; try simp only [Bool.not_eq_true', Bool.not_eq_false'] at h) | skip))
       | (refine WK.regH (id := 0) Try.ntmps33 (by kernel_rfl) ?_; intro A hA Q hQ; simp [*])
       | (refine WK.regH (id := 1) Try.ntmps33 (by kernel_rfl) ?_; intro A hA Q hQ; simp [*])
       | (refine WK.regH (id := 2) Try.ntmps33 (by kernel_rfl) ?_; intro A hA Q hQ; simp [*])
       | (refine WK.regH (id := 3) Try.ntmps33 (by kernel_rfl) ?_; intro A hA Q hQ; simp [*])
       | (refine WK.regX (id := 0) (by kernel_rfl) Try.ntmps33 (by kernel_rfl) ?_; intro A hA Q hQ; simp [*])
       | (refine WK.regX (id := 1) (by kernel_rfl) Try.ntmps33 (by kernel_rfl) ?_; intro A hA Q hQ; simp [*])
       | (refine WK.regX (id := 2) (by kernel_rfl) Try.ntmps33 (by kernel_rfl) ?_; intro A hA Q hQ; simp [*])
       | (refine WK.regX (id := 3) (by kernel_rfl) Try.ntmps33 (by kernel_rfl) ?_; intro A hA Q hQ; simp [*])
       | (refine Hid.h hQ _ _ _ (by decide +kernel) ?_; clear hQ hA)
       | fail)
      repeat (first | refine WK.seq ?_ | refine WK.block ?_ | refine WK.inBlock ?_ | refine WK.skip ?_ | refine WK.label ?_ | refine WK.scope ?_ | refine WK.inScope ?_ | refine WK.exit rfl ?_)
      refine WK.ghost (Ghost.frzVar 4 rfl rfl) ?_
      repeat' (first
       | refine WK.seq ?_
       | refine WK.block ?_
       | refine WK.inBlock ?_
       | refine WK.skip ?_
       | refine WK.label ?_
       | refine WK.scope ?_
       | refine WK.inScope ?_
       | refine WK.exit rfl ?_
       | refine WK.condT rfl ?_
       | refine WK.condF rfl ?_
       | (refine Hid.h hQ _ _ ?_; clear hQ hA)
       | refine WK.condAny rfl ?_ ?_
       | (refine WK.cond2 rfl (fun h => ?_) (fun h => ?_) <;> (first | (simp [*] at h; done) | (have h2 := h; simp at h2; exfalso; omega) | (have h2 := h; simp at h2; try simp only [Bool.not_eq_true', Bool.not_eq_false'] at h) | skip))
       | (refine WK.regH Try.ntmps33 (by kernel_rfl) ?_; intro A hA Q hQ; simp [mF, gFault, *])
       | (refine WK.regX (by kernel_rfl) Try.ntmps33 (by kernel_rfl) ?_; intro A hA Q hQ; simp [mF, gFault, *])
       | (refine Hid.h hQ _ _ _ (by decide +kernel) ?_; clear hQ hA)
       | (refine RunQ.call rfl rfl rfl rfl rfl ?_ (cc) ?_ ?_; (focus (simp (maxDischargeDepth := 120) [mF, gFault, *]; done)); (focus (simp [mF, gFault, *]; done)); refine RunQ.evalH ?_; simp [mF, gFault, *])
       | (refine RunQ.call rfl rfl rfl rfl rfl ?_ (b10) ?_ ?_; (focus (simp (maxDischargeDepth := 120) [mF, gFault, *]; done)); (focus (simp [mF, gFault, *]; done)); refine RunQ.evalH ?_; simp [mF, gFault, *])
       | (refine RunX.call rfl rfl rfl rfl ?_ (cc) ?_ ?_; (focus (simp (maxDischargeDepth := 120) [mF, gFault, *]; done)); (focus (simp [mF, gFault, *]; done)); refine RunX.evalY ?_; simp [mF, gFault, *])
       | (refine RunX.call rfl rfl rfl rfl ?_ (b10) ?_ ?_; (focus (simp (maxDischargeDepth := 120) [mF, gFault, *]; done)); (focus (simp [mF, gFault, *]; done)); refine RunX.evalY ?_; simp [mF, gFault, *])
       | (refine WK.ret Try.func33 ?_ ?_ <;> simp (maxDischargeDepth := 120) [Try.results33, mF, gFault, *])
       | fail)
    rw [if_neg (by simp)] at hst
    cases z2
    case false =>
      rw [if_pos rfl] at hst
      rw [hst]
      clear b10
      repeat' (first
       | refine WK.seq ?_
       | refine WK.block ?_
       | refine WK.inBlock ?_
       | refine WK.skip ?_
       | refine WK.label ?_
       | refine WK.scope ?_
       | refine WK.inScope ?_
       | refine WK.exit rfl ?_
       | refine WK.condT rfl ?_
       | refine WK.condF rfl ?_
       | (refine Hid.h hQ _ _ ?_; clear hQ hA)
       | refine WK.condAny rfl ?_ ?_
       | (refine WK.cond2 rfl (fun h => ?_) (fun h => ?_) <;> (first | (simp [*] at h; done) | (have h2 := h; simp at h2; exfalso; omega) | (have h2 := h; simp at h2; try simp only [Bool.not_eq_true', Bool.not_eq_false'] at h) | skip))
       | (refine WK.regH (id := 0) Try.ntmps33 (by kernel_rfl) ?_; intro A hA Q hQ; simp [*])
       | (refine WK.regH (id := 1) Try.ntmps33 (by kernel_rfl) ?_; intro A hA Q hQ; simp [*])
       | (refine WK.regH (id := 2) Try.ntmps33 (by kernel_rfl) ?_; intro A hA Q hQ; simp [*])
       | (refine WK.regH (id := 3) Try.ntmps33 (by kernel_rfl) ?_; intro A hA Q hQ; simp [*])
       | (refine WK.regX (id := 0) (by kernel_rfl) Try.ntmps33 (by kernel_rfl) ?_; intro A hA Q hQ; simp [*])
       | (refine WK.regX (id := 1) (by kernel_rfl) Try.ntmps33 (by kernel_rfl) ?_; intro A hA Q hQ; simp [*])
       | (refine WK.regX (id := 2) (by kernel_rfl) Try.ntmps33 (by kernel_rfl) ?_; intro A hA Q hQ; simp [*])
       | (refine WK.regX (id := 3) (by kernel_rfl) Try.ntmps33 (by kernel_rfl) ?_; intro A hA Q hQ; simp [*])
       | (refine Hid.h hQ _ _ _ (by decide +kernel) ?_; clear hQ hA)
       | fail)
      repeat (first | refine WK.seq ?_ | refine WK.block ?_ | refine WK.inBlock ?_ | refine WK.skip ?_ | refine WK.label ?_ | refine WK.scope ?_ | refine WK.inScope ?_ | refine WK.exit rfl ?_)
      refine WK.ghost (Ghost.frzVar 4 rfl rfl) ?_
      repeat' (first
       | refine WK.seq ?_
       | refine WK.block ?_
       | refine WK.inBlock ?_
       | refine WK.skip ?_
       | refine WK.label ?_
       | refine WK.scope ?_
       | refine WK.inScope ?_
       | refine WK.exit rfl ?_
       | refine WK.condT rfl ?_
       | refine WK.condF rfl ?_
       | (refine Hid.h hQ _ _ ?_; clear hQ hA)
       | refine WK.condAny rfl ?_ ?_
       | (refine WK.cond2 rfl (fun h => ?_) (fun h => ?_) <;> (first | (simp [*] at h; done) | (have h2 := h; simp at h2; exfalso; omega) | (have h2 := h; simp at h2; try simp only [Bool.not_eq_true', Bool.not_eq_false'] at h) | skip))
       | (refine WK.regH Try.ntmps33 (by kernel_rfl) ?_; intro A hA Q hQ; simp [mF, gFault, *])
       | (refine WK.regX (by kernel_rfl) Try.ntmps33 (by kernel_rfl) ?_; intro A hA Q hQ; simp [mF, gFault, *])
       | (refine Hid.h hQ _ _ _ (by decide +kernel) ?_; clear hQ hA)
       | (refine RunQ.call rfl rfl rfl rfl rfl ?_ (cc) ?_ ?_; (focus (simp (maxDischargeDepth := 120) [mF, gFault, *]; done)); (focus (simp [mF, gFault, *]; done)); refine RunQ.evalH ?_; simp [mF, gFault, *])
       | (refine RunQ.call rfl rfl rfl rfl rfl ?_ (cm) ?_ ?_; (focus (simp (maxDischargeDepth := 120) [mF, gFault, *]; done)); (focus (simp [mF, gFault, *]; done)); refine RunQ.evalH ?_; simp [mF, gFault, *])
       | (refine RunQ.call rfl rfl rfl rfl rfl ?_ (b9) ?_ ?_; (focus (simp (maxDischargeDepth := 120) [mF, gFault, *]; done)); (focus (simp [mF, gFault, *]; done)); refine RunQ.evalH ?_; simp [mF, gFault, *])
       | (refine RunX.call rfl rfl rfl rfl ?_ (cc) ?_ ?_; (focus (simp (maxDischargeDepth := 120) [mF, gFault, *]; done)); (focus (simp [mF, gFault, *]; done)); refine RunX.evalY ?_; simp [mF, gFault, *])
       | (refine RunX.call rfl rfl rfl rfl ?_ (cm) ?_ ?_; (focus (simp (maxDischargeDepth := 120) [mF, gFault, *]; done)); (focus (simp [mF, gFault, *]; done)); refine RunX.evalY ?_; simp [mF, gFault, *])
       | (refine RunX.call rfl rfl rfl rfl ?_ (b9) ?_ ?_; (focus (simp (maxDischargeDepth := 120) [mF, gFault, *]; done)); (focus (simp [mF, gFault, *]; done)); refine RunX.evalY ?_; simp [mF, gFault, *])
       | (refine WK.ret Try.func33 ?_ ?_ <;> simp (maxDischargeDepth := 120) [Try.results33, mF, gFault, *])
       | fail)
    rw [if_neg (by simp)] at hst
    clear b10 b9
    repeat' (first
     | refine WK.seq ?_
     | refine WK.block ?_
     | refine WK.inBlock ?_
     | refine WK.skip ?_
     | refine WK.label ?_
     | refine WK.scope ?_
     | refine WK.inScope ?_
     | refine WK.exit rfl ?_
     | refine WK.condT rfl ?_
     | refine WK.condF rfl ?_
     | (refine Hid.h hQ _ _ ?_; clear hQ hA)
     | refine WK.condAny rfl ?_ ?_
     | (refine WK.cond2 rfl (fun h => ?_) (fun h => ?_) <;> (first | (simp [*] at h; done) | (have h2 := h; simp at h2; exfalso; omega) | (have h2 := h; simp at h2; try simp only [Bool.not_eq_true', Bool.not_eq_false'] at h) | skip))
     | (refine WK.regH (id := 0) Try.ntmps33 (by kernel_rfl) ?_; intro A hA Q hQ; simp [*])
     | (refine WK.regH (id := 1) Try.ntmps33 (by kernel_rfl) ?_; intro A hA Q hQ; simp [*])
     | (refine WK.regH (id := 2) Try.ntmps33 (by kernel_rfl) ?_; intro A hA Q hQ; simp [*])
     | (refine WK.regH (id := 3) Try.ntmps33 (by kernel_rfl) ?_; intro A hA Q hQ; simp [*])
     | (refine WK.regX (id := 0) (by kernel_rfl) Try.ntmps33 (by kernel_rfl) ?_; intro A hA Q hQ; simp [*])
     | (refine WK.regX (id := 1) (by kernel_rfl) Try.ntmps33 (by kernel_rfl) ?_; intro A hA Q hQ; simp [*])
     | (refine WK.regX (id := 2) (by kernel_rfl) Try.ntmps33 (by kernel_rfl) ?_; intro A hA Q hQ; simp [*])
     | (refine WK.regX (id := 3) (by kernel_rfl) Try.ntmps33 (by kernel_rfl) ?_; intro A hA Q hQ; simp [*])
     | (refine Hid.h hQ _ _ _ (by decide +kernel) ?_; clear hQ hA)
     | fail)
    repeat (first | refine WK.seq ?_ | refine WK.block ?_ | refine WK.inBlock ?_ | refine WK.skip ?_ | refine WK.label ?_ | refine WK.scope ?_ | refine WK.inScope ?_ | refine WK.exit rfl ?_)
    refine WK.ghost (Ghost.frzVar 4 rfl rfl) ?_
    repeat' (first
     | refine WK.seq ?_
     | refine WK.block ?_
     | refine WK.inBlock ?_
     | refine WK.skip ?_
     | refine WK.label ?_
     | refine WK.scope ?_
     | refine WK.inScope ?_
     | refine WK.exit rfl ?_
     | refine WK.condT rfl ?_
     | refine WK.condF rfl ?_
     | (refine Hid.h hQ _ _ ?_; clear hQ hA)
     | refine WK.condAny rfl ?_ ?_
     | (refine WK.cond2 rfl (fun h => ?_) (fun h => ?_) <;> (first | (simp [*] at h; done) | (have h2 := h; simp at h2; exfalso; omega) | (have h2 := h; simp at h2; try simp only [Bool.not_eq_true', Bool.not_eq_false'] at h) | skip))
     | (refine WK.regH Try.ntmps33 (by kernel_rfl) ?_; intro A hA Q hQ; simp [*])
     | (refine WK.regX (by kernel_rfl) Try.ntmps33 (by kernel_rfl) ?_; intro A hA Q hQ; simp [*])
     | (refine Hid.h hQ _ _ _ (by decide +kernel) ?_; clear hQ hA)
     | (refine RunQ.call rfl rfl rfl rfl rfl ?_ (cc) ?_ ?_; (focus (simp (maxDischargeDepth := 120) [*]; done)); (focus (simp [*]; done)); refine RunQ.evalH ?_; simp [*])
     | (refine RunQ.call rfl rfl rfl rfl rfl ?_ (cm) ?_ ?_; (focus (simp (maxDischargeDepth := 120) [*]; done)); (focus (simp [*]; done)); refine RunQ.evalH ?_; simp [*])
     | (refine RunX.call rfl rfl rfl rfl ?_ (cc) ?_ ?_; (focus (simp (maxDischargeDepth := 120) [*]; done)); (focus (simp [*]; done)); refine RunX.evalY ?_; simp [*])
     | (refine RunX.call rfl rfl rfl rfl ?_ (cm) ?_ ?_; (focus (simp (maxDischargeDepth := 120) [*]; done)); (focus (simp [*]; done)); refine RunX.evalY ?_; simp [*])
     | fail)
    repeat (first | refine WK.seq ?_ | refine WK.block ?_ | refine WK.inBlock ?_ | refine WK.skip ?_ | refine WK.label ?_ | refine WK.scope ?_ | refine WK.inScope ?_ | refine WK.exit rfl ?_)
    refine WK.next (fun n => n) (IH (i + 1) (⟨by omega, hst⟩) (by first | omega | (dsimp only; omega))) (by repeat (first | exact TmW.nil | refine TmW.upd ?_ (by simp (maxDischargeDepth := 120)))) (by repeat (first | exact BxW.nil | refine BxW.upd ?_ (by simp (maxDischargeDepth := 120)))) (by first | exact InjW.id | exact InjW.nil | exact InjW.one | exact InjW.two (by simp) | exact InjW.three (by simp) (by simp) (by simp))
  · have hst := hi.2
    rw [show i = l.length by omega, mCheck_end] at hst
    rw [hst]
    clear b10 b9
    repeat' (first
     | refine WK.seq ?_
     | refine WK.block ?_
     | refine WK.inBlock ?_
     | refine WK.skip ?_
     | refine WK.label ?_
     | refine WK.scope ?_
     | refine WK.inScope ?_
     | refine WK.exit rfl ?_
     | refine WK.condT rfl ?_
     | refine WK.condF rfl ?_
     | (refine Hid.h hQ _ _ ?_; clear hQ hA)
     | refine WK.condAny rfl ?_ ?_
     | (refine WK.cond2 rfl (fun h => ?_) (fun h => ?_) <;> (first | (simp [*] at h; done) | (have h2 := h; simp at h2; exfalso; omega) | (have h2 := h; simp at h2; try simp only [Bool.not_eq_true', Bool.not_eq_false'] at h) | skip))
     | (refine WK.regH Try.ntmps33 (by kernel_rfl) ?_; intro A hA Q hQ; simp [mF, gFault, *])
     | (refine WK.regX (by kernel_rfl) Try.ntmps33 (by kernel_rfl) ?_; intro A hA Q hQ; simp [mF, gFault, *])
     | (refine Hid.h hQ _ _ _ (by decide +kernel) ?_; clear hQ hA)
     | (refine WK.ret Try.func33 ?_ ?_ <;> simp (maxDischargeDepth := 120) [Try.results33, mF, gFault, *])
     | fail)
end Go.Proofs.Ytibaiiibjnnlkaa
end

section
set_option linter.unusedVariables false
set_option linter.unusedSimpArgs false
namespace Go.Proofs.Ytibaiiibjnnlkaa
open Go Go.AI Go.Proofs
attribute [local irreducible] FnP FnO FnB FnT FnSeq WK RunQ RunQW RunX RunXW

theorem mpad_c (n : Nat) (h : n < 1000000000) : FnP Try.prog 35 [.int .i64 n] (.int .i64 (mPad n : Nat)) := by
  have e := mPad_bit n h
  have w : IntKind.i64.wrap ((n : Int) + 7) = n + 7 := wrap_i64 (by omega) (by omega)
  rw [w] at e
  refine FnP.intro Try.func35 rfl rfl fun G w => ?_
  repeat' (first
   | refine WK.seq ?_
   | refine WK.block ?_
   | refine WK.inBlock ?_
   | refine WK.skip ?_
   | refine WK.label ?_
   | refine WK.scope ?_
   | refine WK.inScope ?_
   | refine WK.exit rfl ?_
   | refine WK.condT rfl ?_
   | refine WK.condF rfl ?_
   | (refine Hid.h hQ _ _ ?_; clear hQ hA)
   | refine WK.condAny rfl ?_ ?_
   | (refine WK.cond2 rfl (fun h => ?_) (fun h => ?_) <;> (first | (simp [*] at h; done) | (have h2 := h; simp at h2; exfalso; omega) | (have h2 := h; simp at h2; try simp only [Bool.not_eq_true', Bool.not_eq_false'] at h) | skip))
   | (refine WK.regH Try.ntmps35 (by kernel_rfl) ?_; intro A hA Q hQ; simp [*])
   | (refine WK.ret Try.func35 ?_ ?_ <;> simp (maxDischargeDepth := 120) [Try.results35, *])
   | fail)
def mHd : List (BitVec 8) := [0#8, 1#8, 0#8, 0#8]
def mAcc (l : List Oxm) : List (BitVec 8) := mHd ++ rwFlat oBytes l
theorem mAcc_succ {l : List Oxm} {i : Nat} (h : i < l.length) : mAcc (l.take (i + 1)) = mAcc (l.take i) ++ oBytes (nth l i) := by
  unfold mAcc rwFlat; rw [take_nth h, List.flatMap_append, List.append_assoc]; simp
theorem oFlat_len (l : List Oxm) : (rwFlat oBytes l).length ≤ l.length * 36 := by
  induction l with
  | nil => simp [rwFlat]
  | cons x l ih =>
    have h1 : (oBytes x).length ≤ 36 := oEnc_len x
    have e : rwFlat oBytes (x :: l) = oBytes x ++ rwFlat oBytes l := rfl
    rw [e, List.length_append, List.length_cons]; omega
theorem oBytes_of {o : Oxm} (h : Oxm.right o = true) : oEnc o = (oBytes o, 0) := by unfold oBytes oEnc; rw [if_pos h]
theorem oEnc_wrong {o : Oxm} (h : Oxm.right o = false) : oEnc o = ([], 1) := by unfold oEnc; rw [if_neg (by rw [h]; simp)]
theorem mFit_of {l : List Oxm} (hc : mCheck l = none) (h : ∀ j, j < l.length → Oxm.right (nth l j) = true) : mFit l = true := by
  unfold mFit
  rw [hc, Bool.and_eq_true, List.all_eq_true]
  refine ⟨rfl, fun x hx => ?_⟩
  obtain ⟨j, hj, rfl⟩ := mem_nth hx
  exact h j hj
theorem mEnc_wrong {l : List Oxm} {i : Nat} (h : i < l.length) (hr : Oxm.right (nth l i) = false) : mEnc l = ([], 1) := mEnc_bad1 fun hh => by
  have := (mFit_facts hh.1).2 _ (nth_mem h)
  rw [hr] at this; cases this
theorem mEnc_check {l : List Oxm} {c : Int} (h : mCheck l = some c) : mEnc l = ([], 1) := mEnc_bad1 fun hh => by
  have := (mFit_facts hh.1).1
  rw [h] at this; cases this
/-- the bytes of a match that may be: its head, its length, its parts, noughts -/
theorem mEnc_fit {l : List Oxm} (h : mFit l = true) : mEnc l = if (rwFlat oBytes l).length ≤ 1000 then (mWhole l, 0) else ([], 1) := by
  unfold mEnc
  by_cases hh : (rwFlat oBytes l).length ≤ 1000
  · rw [if_pos hh, if_pos ⟨h, hh⟩]
  · rw [if_neg hh, if_neg fun x => hh x.2]
theorem splice_len (F : List (BitVec 8)) (n : Int) : splice (byL (mHd ++ F)) 2 (byL (beN n 2)) = byL (beN 1 2 ++ (beN n 2 ++ F)) := by
  have e : byL (mHd ++ F) = byL (beN 1 2) ++ (byL [0#8, 0#8] ++ byL F) := by rw [← byL_app, ← byL_app]; rfl
  unfold splice
  rw [e, byL_len, beN_len, List.take_left' (by simp [beN_len]), ← List.append_assoc (byL (beN 1 2)), List.drop_left' (by simp [beN_len]), byL_app, byL_app, List.append_assoc]
theorem mEnc_len1 (l : List Oxm) : (mAcc l).length = 4 + (rwFlat oBytes l).length := by unfold mAcc mHd; simp; omega
set_option maxHeartbeats 4000000 in
theorem menc_c (l : List Oxm) (hl : l.length ≤ 10000) : FnT Try.prog 17 [oxmS l] (mEnc l).1.length 1 (byL (mEnc l).1) [.int .i64 (mEnc l).2] := by
  have ck := mcheck_c l (by omega)
  unfold oxmS at *
  cases hc : mCheck l with
  | some c =>
    have e := mEnc_check hc
    rw [hc] at ck
    rw [e]
    clear e hc
    refine FnT.intro Try.func17 rfl rfl fun G w => ?_
    repeat' (first
     | refine WK.seq ?_
     | refine WK.block ?_
     | refine WK.inBlock ?_
     | refine WK.skip ?_
     | refine WK.label ?_
     | refine WK.scope ?_
     | refine WK.inScope ?_
     | refine WK.exit rfl ?_
     | refine WK.condT rfl ?_
     | refine WK.condF rfl ?_
     | (refine Hid.h hQ _ _ ?_; clear hQ hA)
     | refine WK.condAny rfl ?_ ?_
     | (refine WK.cond2 rfl (fun h => ?_) (fun h => ?_) <;> (first | (simp [*] at h; done) | (have h2 := h; simp at h2; exfalso; omega) | (have h2 := h; simp at h2; try simp only [Bool.not_eq_true', Bool.not_eq_false'] at h) | skip))
     | (refine WK.regH Try.ntmps17 (by kernel_rfl) ?_; intro A hA Q hQ; simp [mF, gFault, *])
     | (refine WK.regX (by kernel_rfl) Try.ntmps17 (by kernel_rfl) ?_; intro A hA Q hQ; simp [mF, gFault, *])
     | (refine Hid.h hQ _ _ _ (by decide +kernel) ?_; clear hQ hA)
     | (refine RunQ.call rfl rfl rfl rfl rfl ?_ (ck) ?_ ?_; (focus (simp (maxDischargeDepth := 120) [mF, gFault, *]; done)); (focus (simp [mF, gFault, *]; done)); refine RunQ.evalH ?_; simp [mF, gFault, *])
     | (refine RunX.call rfl rfl rfl rfl ?_ (ck) ?_ ?_; (focus (simp (maxDischargeDepth := 120) [mF, gFault, *]; done)); (focus (simp [mF, gFault, *]; done)); refine RunX.evalY ?_; simp [mF, gFault, *])
     | fail)
    repeat (first | refine WK.seq ?_ | refine WK.block ?_ | refine WK.inBlock ?_ | refine WK.skip ?_ | refine WK.label ?_ | refine WK.scope ?_ | refine WK.inScope ?_ | refine WK.exit rfl ?_)
    refine WK.ghost (Ghost.own 2 900 1 rfl rfl) ?_
    repeat (first | refine WK.seq ?_ | refine WK.block ?_ | refine WK.inBlock ?_ | refine WK.skip ?_ | refine WK.label ?_ | refine WK.scope ?_ | refine WK.inScope ?_ | refine WK.exit rfl ?_)
    refine WK.retT2 Try.func17 ?_ ?_ ?_ <;> simp (maxDischargeDepth := 120) [Try.results17, byL_nil]
  | none =>
  rw [hc] at ck
  have c1 := nput_c [] 1 2 Sz2 (by simp)
  have c2 := nput_c [0#8, 1#8] 0 2 Sz2 (by simp)
  rw [show putN [] 1 2 = [0#8, 1#8] from rfl] at c1
  rw [show putN [0#8, 1#8] 0 2 = mHd from rfl] at c2
  unfold byS at c1 c2
  rw [byL_nil] at c1
  simp only [List.length_cons, List.length_nil, Nat.zero_add, Nat.reduceAdd, show mHd.length = 4 from rfl] at c1 c2
  have hB2 : (byL [0#8, 1#8]).take 2 = byL [0#8, 1#8] := rfl
  have hA0 : mAcc [] = mHd := by unfold mAcc; simp [rwFlat]
  have hA4 : mHd.length = 4 := rfl
  refine FnT.intro Try.func17 rfl rfl fun G w => ?_
  repeat' (first
   | refine WK.seq ?_
   | refine WK.block ?_
   | refine WK.inBlock ?_
   | refine WK.skip ?_
   | refine WK.label ?_
   | refine WK.scope ?_
   | refine WK.inScope ?_
   | refine WK.exit rfl ?_
   | refine WK.condT rfl ?_
   | refine WK.condF rfl ?_
   | (refine Hid.h hQ _ _ ?_; clear hQ hA)
   | refine WK.condAny rfl ?_ ?_
   | (refine WK.cond2 rfl (fun h => ?_) (fun h => ?_) <;> (first | (simp [*] at h; done) | (have h2 := h; simp at h2; exfalso; omega) | (have h2 := h; simp at h2; try simp only [Bool.not_eq_true', Bool.not_eq_false'] at h) | skip))
   | (refine WK.regH Try.ntmps17 (by kernel_rfl) ?_; intro A hA Q hQ; simp [mF, gFault, *])
   | (refine WK.regX (by kernel_rfl) Try.ntmps17 (by kernel_rfl) ?_; intro A hA Q hQ; simp [mF, gFault, *])
   | (refine Hid.h hQ _ _ _ (by decide +kernel) ?_; clear hQ hA)
   | (refine RunQ.callO 900 rfl rfl rfl rfl rfl ?_ (c1) ?_ ?_ ?_ ?_; (focus (simp (maxDischargeDepth := 120) [mF, gFault, *]; done)); (focus (simp [mF, gFault, *]; done)); (focus (simp [mF, gFault, *]; done)); (focus (simp [mF, gFault, *]; done)); refine RunQ.evalH ?_; simp [mF, gFault, *])
   | (refine RunX.callO 900 rfl rfl rfl rfl ?_ (c1) ?_ ?_ ?_ ?_; (focus (simp (maxDischargeDepth := 120) [mF, gFault, *]; done)); (focus (simp [mF, gFault, *]; done)); (focus (simp [mF, gFault, *]; done)); (focus (simp [mF, gFault, *]; done)); refine RunX.evalY ?_; simp [mF, gFault, *])
   | (refine RunQ.callOz 901 12 1 rfl rfl rfl rfl rfl rfl rfl ?_ (c2) ?_ ?_ (by simp) (by decide) ?_; (focus (simp (maxDischargeDepth := 120) [mF, gFault, *]; done)); (focus (simp [mF, gFault, *]; done)); (focus (simp [mF, gFault, *]; done)); refine RunQ.evalH ?_; simp [mF, gFault, *])
   | (refine RunX.callOz 901 12 1 rfl rfl rfl rfl rfl rfl ?_ (c2) ?_ ?_ (by simp) (by decide) ?_; (focus (simp (maxDischargeDepth := 120) [mF, gFault, *]; done)); (focus (simp [mF, gFault, *]; done)); (focus (simp [mF, gFault, *]; done)); refine RunX.evalY ?_; simp [mF, gFault, *])
   | (refine RunQ.call rfl rfl rfl rfl rfl ?_ (ck) ?_ ?_; (focus (simp (maxDischargeDepth := 120) [mF, gFault, *]; done)); (focus (simp [mF, gFault, *]; done)); refine RunQ.evalH ?_; simp [mF, gFault, *])
   | (refine RunX.call rfl rfl rfl rfl ?_ (ck) ?_ ?_; (focus (simp (maxDischargeDepth := 120) [mF, gFault, *]; done)); (focus (simp [mF, gFault, *]; done)); refine RunX.evalY ?_; simp [mF, gFault, *])
   | fail)
  repeat (first | refine WK.seq ?_ | refine WK.block ?_ | refine WK.inBlock ?_ | refine WK.skip ?_ | refine WK.label ?_ | refine WK.scope ?_ | refine WK.inScope ?_ | refine WK.exit rfl ?_)
  refine WK.loopI (fun n => if n = 1 then 901 else n) (fun i : Nat => (⟨(upd (upd (upd (upd J 4 (.msl 1 0 (mAcc (l.take i)).length)) 14 (.sl false l.length (oxmL l))) 15 (.int .i64 l.length)) 16 (.int .i64 i)), (upd B0 1 (.buf 1 (byL (mAcc (l.take i))))), 0⟩ : St)) (fun i => i ≤ l.length ∧ ∀ j, j < i → Oxm.right (nth l j) = true) (fun i => l.length - i) (0) (by repeat (first | exact TmW.nil | refine TmW.upd ?_ (by simp (maxDischargeDepth := 120) [hA0, hA4]))) (by repeat (first | exact BxW.nil | refine BxW.upd ?_ (by simp (maxDischargeDepth := 120) [hA0, hA4]))) (by first | exact InjW.id | exact InjW.nil | exact InjW.one | exact InjW.two (by simp) | exact InjW.three (by simp) (by simp) (by simp)) (⟨by omega, by simp⟩) (fun i hi IH => ?_)
  clear c1 c2 hB2 hA0 hA4 ck
  have hal := mEnc_len1 (l.take i)
  have hfl := oFlat_len (l.take i)
  have htl : (l.take i).length ≤ i := by rw [List.length_take]; omega
  have hil := hi.1
  by_cases h1 : i < l.length
  · have g4 := oxm_sub l i h1
    have g3 : 6 ≤ l.length * 6 - i * 6 := by omega
    have g6 : IntKind.i64.wrap ((i : Int) + 1) = i + 1 := wrap_i64 (by omega) (by omega)
    have p := oenc_c (nth l i)
    have hs := mAcc_succ h1
    have hw : Oxm.right (nth l i) = false → mEnc l = ([], 1) := mEnc_wrong h1
    have hr : Oxm.right (nth l i) = true → ∀ j, j < i + 1 → Oxm.right (nth l j) = true := fun hr j hj => by
      by_cases h7 : j = i
      · subst h7; exact hr
      · exact hi.2 j (by omega)
    have hol : (oBytes (nth l i)).length ≤ 36 := oEnc_len _
    have hoe : Oxm.right (nth l i) = true → oEnc (nth l i) = (oBytes (nth l i), 0) := oBytes_of
    have hob : Oxm.right (nth l i) = false → oEnc (nth l i) = ([], 1) := oEnc_wrong
    obtain ⟨o, ho⟩ : ∃ o, nth l i = o := ⟨_, rfl⟩
    rw [ho] at g4 p hs hw hr hol hoe hob
    obtain ⟨F, hF⟩ : ∃ F, mAcc (l.take i) = F := ⟨_, rfl⟩
    rw [hF] at hal hs ⊢
    unfold Oxm.enc at g4 p
    clear ho hF hi
    cases hrt : Oxm.right o
    · rw [hw hrt]
      rw [hob hrt] at p
      unfold byS at p
      clear hw hr hoe hob hs hrt
      repeat' (first
       | refine WK.seq ?_
       | refine WK.block ?_
       | refine WK.inBlock ?_
       | refine WK.skip ?_
       | refine WK.label ?_
       | refine WK.scope ?_
       | refine WK.inScope ?_
       | refine WK.exit rfl ?_
       | refine WK.condT rfl ?_
       | refine WK.condF rfl ?_
       | (refine Hid.h hQ _ _ ?_; clear hQ hA)
       | refine WK.condAny rfl ?_ ?_
       | (refine WK.cond2 rfl (fun h => ?_) (fun h => ?_) <;> (first | (simp [*] at h; done) | (have h2 := h; simp at h2; exfalso; omega) | (have h2 := h; simp at h2; try simp only [Bool.not_eq_true', Bool.not_eq_false'] at h) | skip))
       | (refine WK.regH Try.ntmps17 (by kernel_rfl) ?_; intro A hA Q hQ; simp [bne, *])
       | (refine WK.regX (by kernel_rfl) Try.ntmps17 (by kernel_rfl) ?_; intro A hA Q hQ; simp [bne, *])
       | (refine Hid.h hQ _ _ _ (by decide +kernel) ?_; clear hQ hA)
       | (refine RunQ.call rfl rfl rfl rfl rfl ?_ (p) ?_ ?_; (focus (simp (maxDischargeDepth := 120) [bne, *]; done)); (focus (simp [bne, *]; done)); refine RunQ.evalH ?_; simp [bne, *])
       | (refine RunX.call rfl rfl rfl rfl ?_ (p) ?_ ?_; (focus (simp (maxDischargeDepth := 120) [bne, *]; done)); (focus (simp [bne, *]; done)); refine RunX.evalY ?_; simp [bne, *])
       | fail)
      repeat (first | refine WK.seq ?_ | refine WK.block ?_ | refine WK.inBlock ?_ | refine WK.skip ?_ | refine WK.label ?_ | refine WK.scope ?_ | refine WK.inScope ?_ | refine WK.exit rfl ?_)
      refine WK.ghost (Ghost.own 2 902 1 rfl rfl) ?_
      repeat (first | refine WK.seq ?_ | refine WK.block ?_ | refine WK.inBlock ?_ | refine WK.skip ?_ | refine WK.label ?_ | refine WK.scope ?_ | refine WK.inScope ?_ | refine WK.exit rfl ?_)
      refine WK.retT2 Try.func17 ?_ ?_ ?_ <;> simp (maxDischargeDepth := 120) [Try.results17, byL_nil]
    · rw [hoe hrt] at p
      have hr2 := hr hrt
      obtain ⟨B, hB⟩ : ∃ B, oBytes o = B := ⟨_, rfl⟩
      rw [hB] at p hs hol
      have hs3 : byL F ++ byL B = byL (mAcc (l.take (i + 1))) := by rw [hs, byL_app]
      have hs4 : (mAcc (l.take (i + 1))).length = F.length + B.length := by rw [hs, List.length_append]
      have hbd : F.length + B.length ≤ 140737488355328 := by omega
      have hfu := by_full B B.length rfl
      unfold byS at p
      clear hw hr hoe hob hs hrt hB hal hfl
      repeat' (first
       | refine WK.seq ?_
       | refine WK.block ?_
       | refine WK.inBlock ?_
       | refine WK.skip ?_
       | refine WK.label ?_
       | refine WK.scope ?_
       | refine WK.inScope ?_
       | refine WK.exit rfl ?_
       | refine WK.condT rfl ?_
       | refine WK.condF rfl ?_
       | (refine Hid.h hQ _ _ ?_; clear hQ hA)
       | refine WK.condAny rfl ?_ ?_
       | (refine WK.cond2 rfl (fun h => ?_) (fun h => ?_) <;> (first | (simp [*] at h; done) | (have h2 := h; simp at h2; exfalso; omega) | (have h2 := h; simp at h2; try simp only [Bool.not_eq_true', Bool.not_eq_false'] at h) | skip))
       | (refine WK.regH Try.ntmps17 (by kernel_rfl) ?_; intro A hA Q hQ; simp [bne, *])
       | (refine WK.regX (by kernel_rfl) Try.ntmps17 (by kernel_rfl) ?_; intro A hA Q hQ; simp [bne, *])
       | (refine Hid.h hQ _ _ _ (by decide +kernel) ?_; clear hQ hA)
       | (refine RunQ.append 902 appByte rfl rfl rfl rfl rfl rfl rfl rfl rfl ?_ ?_ ?_ ?_ ?_; (focus (first | omega | (simp [bne, *]; done); done)); (focus (first | omega | (simp [bne, *]; done); done)); (focus (first | omega | (simp [bne, *]; done); done)); (focus (first | omega | (simp [bne, *]; done); done)); refine RunQ.evalH ?_; simp [bne, *])
       | (refine RunX.append 902 appByte rfl rfl rfl rfl rfl rfl rfl rfl ?_ ?_ ?_ ?_ ?_; (focus (first | omega | (simp [bne, *]; done); done)); (focus (first | omega | (simp [bne, *]; done); done)); (focus (first | omega | (simp [bne, *]; done); done)); (focus (first | omega | (simp [bne, *]; done); done)); refine RunX.evalY ?_; simp [bne, *])
       | (refine RunQ.call rfl rfl rfl rfl rfl ?_ (p) ?_ ?_; (focus (simp (maxDischargeDepth := 120) [bne, *]; done)); (focus (simp [bne, *]; done)); refine RunQ.evalH ?_; simp [bne, *])
       | (refine RunX.call rfl rfl rfl rfl ?_ (p) ?_ ?_; (focus (simp (maxDischargeDepth := 120) [bne, *]; done)); (focus (simp [bne, *]; done)); refine RunX.evalY ?_; simp [bne, *])
       | fail)
      repeat (first | refine WK.seq ?_ | refine WK.block ?_ | refine WK.inBlock ?_ | refine WK.skip ?_ | refine WK.label ?_ | refine WK.scope ?_ | refine WK.inScope ?_ | refine WK.exit rfl ?_)
      refine WK.next (fun n => if n = 1 then 902 else n) (IH (i + 1) (⟨by omega, hr2⟩) (by first | omega | (dsimp only; omega))) (by repeat (first | exact TmW.nil | refine TmW.upd ?_ (by simp (maxDischargeDepth := 120) [hs3, hs4]))) (by repeat (first | exact BxW.nil | refine BxW.upd ?_ (by simp (maxDischargeDepth := 120) [hs3, hs4]))) (by first | exact InjW.id | exact InjW.nil | exact InjW.one | exact InjW.two (by simp) | exact InjW.three (by simp) (by simp) (by simp))
  · have hT : l.take i = l := List.take_of_length_le (by omega)
    have hfit := mFit_of hc (fun j hj => hi.2 j (by omega))
    have hdef := mEnc_fit hfit
    have hwl := mWhole_len l
    rw [hT] at hal hfl ⊢
    have hX : mAcc l = mHd ++ rwFlat oBytes l := rfl
    have hW : mWhole l = beN 1 2 ++ (beN (4 + (rwFlat oBytes l).length : Nat) 2 ++ (rwFlat oBytes l ++ List.replicate (mPad (4 + (rwFlat oBytes l).length) - (4 + (rwFlat oBytes l).length)) 0#8)) := rfl
    obtain ⟨F, hF⟩ : ∃ F, rwFlat oBytes l = F := ⟨_, rfl⟩
    rw [hF] at hdef hal hfl hX hwl hW
    by_cases h6 : F.length ≤ 1000
    · rw [if_pos h6] at hdef
      have hp := mPad_ge (4 + F.length)
      have hm := mpad_c (4 + F.length) (by omega)
      have q := nputP_c [] ((4 + F.length : Nat) : Int) 2 Sz2 (by simp)
      rw [putN_beN (numOk2 (by omega)), List.nil_append] at q
      have hsp := splice_len F ((4 + F.length : Nat) : Int)
      rw [← hX] at hsp
      have hYl : (beN 1 2 ++ (beN ((4 + F.length : Nat) : Int) 2 ++ F)).length = 4 + F.length := by simp [beN_len]; omega
      have hWY : mWhole l = (beN 1 2 ++ (beN ((4 + F.length : Nat) : Int) 2 ++ F)) ++ List.replicate (mPad (4 + F.length) - (4 + F.length)) 0#8 := by rw [hW]; simp only [List.append_assoc]
      have hlast : byL (beN 1 2 ++ (beN ((4 + F.length : Nat) : Int) 2 ++ F)) ++ List.replicate (mPad (4 + F.length) - (4 + F.length)) (AV.int .u8 0) = byL (mWhole l) := by rw [hWY, byL_rep, ← byL_app]
      obtain ⟨Y, hY⟩ : ∃ Y, beN 1 2 ++ (beN ((4 + F.length : Nat) : Int) 2 ++ F) = Y := ⟨_, rfl⟩
      obtain ⟨B, hB⟩ : ∃ B, beN ((4 + F.length : Nat) : Int) 2 = B := ⟨_, rfl⟩
      have hBl : B.length = 2 := by rw [← hB, beN_len]
      rw [hY] at hsp hYl hlast
      rw [hB] at q hsp
      obtain ⟨Z, hZ⟩ : ∃ Z, mWhole l = Z := ⟨_, rfl⟩
      rw [hZ] at hlast hdef hwl
      obtain ⟨A, hA⟩ : ∃ A, mAcc l = A := ⟨_, rfl⟩
      rw [hA] at hal hsp ⊢
      obtain ⟨m, hmm⟩ : ∃ m, 4 + F.length = m := ⟨_, rfl⟩
      rw [hmm] at hal hp hm q hwl hYl hlast
      rw [hdef]
      simp only
      rw [hal, hwl]
      unfold byS at q
      rw [hBl, byL_nil] at q
      have hm4 : m ≤ 1004 := by omega
      have hm2 : 2 ≤ m := by omega
      have hm2' : (2 : Int) ≤ m := by omega
      have hm3 : ¬ (1004 : Int) < m := by omega
      have hm5 : 2 < m := by omega
      have hm8 : 2 ≤ m - 2 := by omega
      have hAb : (byL A).length = m := by rw [byL_len, hal]
      have hBb : (byL B).length = 2 := by rw [byL_len, hBl]
      unfold splice at hsp
      rw [hBb, List.append_assoc] at hsp
      simp only [Nat.reduceAdd] at hsp
      have w1 : IntKind.i64.wrap ((mPad m : Int) - m) = ((mPad m - m : Nat) : Int) := by rw [wrap_i64 (by omega) (by omega)]; omega
      have hm6 : m + (mPad m - m) = mPad m := by omega
      have hm7 : mPad m ≤ 140737488355328 := by omega
      clear hdef hW hX hWY hF hY hB hZ hA hmm hi hc hfit hT hfl hil
      repeat' (first
       | refine WK.seq ?_
       | refine WK.block ?_
       | refine WK.inBlock ?_
       | refine WK.skip ?_
       | refine WK.label ?_
       | refine WK.scope ?_
       | refine WK.inScope ?_
       | refine WK.exit rfl ?_
       | refine WK.condT rfl ?_
       | refine WK.condF rfl ?_
       | (refine Hid.h hQ _ _ ?_; clear hQ hA)
       | refine WK.condAny rfl ?_ ?_
       | (refine WK.cond2 rfl (fun h => ?_) (fun h => ?_) <;> (first | (simp [*] at h; done) | (have h2 := h; simp at h2; exfalso; omega) | (have h2 := h; simp at h2; try simp only [Bool.not_eq_true', Bool.not_eq_false'] at h) | skip))
       | (refine WK.regH (id := 0) Try.ntmps17 (by kernel_rfl) ?_; intro A hA Q hQ; simp [*])
       | (refine WK.regH (id := 1) Try.ntmps17 (by kernel_rfl) ?_; intro A hA Q hQ; simp [*])
       | (refine WK.regH (id := 2) Try.ntmps17 (by kernel_rfl) ?_; intro A hA Q hQ; simp [*])
       | (refine WK.regH (id := 3) Try.ntmps17 (by kernel_rfl) ?_; intro A hA Q hQ; simp [*])
       | (refine WK.regH (id := 4) Try.ntmps17 (by kernel_rfl) ?_; intro A hA Q hQ; simp [*])
       | (refine WK.regH (id := 5) Try.ntmps17 (by kernel_rfl) ?_; intro A hA Q hQ; simp [*])
       | (refine WK.regH (id := 6) Try.ntmps17 (by kernel_rfl) ?_; intro A hA Q hQ; simp [*])
       | (refine WK.regH (id := 7) Try.ntmps17 (by kernel_rfl) ?_; intro A hA Q hQ; simp [*])
       | (refine WK.regH (id := 8) Try.ntmps17 (by kernel_rfl) ?_; intro A hA Q hQ; simp [*])
       | (refine WK.regH (id := 9) Try.ntmps17 (by kernel_rfl) ?_; intro A hA Q hQ; simp [*])
       | (refine WK.regH (id := 10) Try.ntmps17 (by kernel_rfl) ?_; intro A hA Q hQ; simp [*])
       | (refine WK.regH (id := 11) Try.ntmps17 (by kernel_rfl) ?_; intro A hA Q hQ; simp [*])
       | (refine WK.regH (id := 12) Try.ntmps17 (by kernel_rfl) ?_; intro A hA Q hQ; simp [*])
       | (refine WK.regH (id := 13) Try.ntmps17 (by kernel_rfl) ?_; intro A hA Q hQ; simp [*])
       | (refine WK.regX (id := 0) (by kernel_rfl) Try.ntmps17 (by kernel_rfl) ?_; intro A hA Q hQ; simp [*])
       | (refine WK.regX (id := 1) (by kernel_rfl) Try.ntmps17 (by kernel_rfl) ?_; intro A hA Q hQ; simp [*])
       | (refine WK.regX (id := 2) (by kernel_rfl) Try.ntmps17 (by kernel_rfl) ?_; intro A hA Q hQ; simp [*])
       | (refine WK.regX (id := 3) (by kernel_rfl) Try.ntmps17 (by kernel_rfl) ?_; intro A hA Q hQ; simp [*])
       | (refine WK.regX (id := 4) (by kernel_rfl) Try.ntmps17 (by kernel_rfl) ?_; intro A hA Q hQ; simp [*])
       | (refine WK.regX (id := 5) (by kernel_rfl) Try.ntmps17 (by kernel_rfl) ?_; intro A hA Q hQ; simp [*])
       | (refine WK.regX (id := 6) (by kernel_rfl) Try.ntmps17 (by kernel_rfl) ?_; intro A hA Q hQ; simp [*])
       | (refine WK.regX (id := 7) (by kernel_rfl) Try.ntmps17 (by kernel_rfl) ?_; intro A hA Q hQ; simp [*])
       | (refine WK.regX (id := 8) (by kernel_rfl) Try.ntmps17 (by kernel_rfl) ?_; intro A hA Q hQ; simp [*])
       | (refine WK.regX (id := 9) (by kernel_rfl) Try.ntmps17 (by kernel_rfl) ?_; intro A hA Q hQ; simp [*])
       | (refine WK.regX (id := 10) (by kernel_rfl) Try.ntmps17 (by kernel_rfl) ?_; intro A hA Q hQ; simp [*])
       | (refine WK.regX (id := 11) (by kernel_rfl) Try.ntmps17 (by kernel_rfl) ?_; intro A hA Q hQ; simp [*])
       | (refine WK.regX (id := 12) (by kernel_rfl) Try.ntmps17 (by kernel_rfl) ?_; intro A hA Q hQ; simp [*])
       | (refine WK.regX (id := 13) (by kernel_rfl) Try.ntmps17 (by kernel_rfl) ?_; intro A hA Q hQ; simp [*])
       | (refine Hid.h hQ _ _ _ (by decide +kernel) ?_; clear hQ hA)
       | fail)
      repeat' (first
       | refine WK.seq ?_
       | refine WK.block ?_
       | refine WK.inBlock ?_
       | refine WK.skip ?_
       | refine WK.label ?_
       | refine WK.scope ?_
       | refine WK.inScope ?_
       | refine WK.exit rfl ?_
       | refine WK.condT rfl ?_
       | refine WK.condF rfl ?_
       | (refine Hid.h hQ _ _ ?_; clear hQ hA)
       | refine WK.condAny rfl ?_ ?_
       | (refine WK.cond2 rfl (fun h => ?_) (fun h => ?_) <;> (first | (simp [*] at h; done) | (have h2 := h; simp at h2; exfalso; omega) | (have h2 := h; simp at h2; try simp only [Bool.not_eq_true', Bool.not_eq_false'] at h) | skip))
       | (refine WK.regH Try.ntmps17 (by kernel_rfl) ?_; intro A hA Q hQ; simp [*])
       | (refine WK.regX (by kernel_rfl) Try.ntmps17 (by kernel_rfl) ?_; intro A hA Q hQ; simp [*])
       | (refine Hid.h hQ _ _ _ (by decide +kernel) ?_; clear hQ hA)
       | (refine RunQ.slOwn (a := 2) (b := m) appByte rfl rfl rfl rfl rfl ?_ ?_ ?_; (focus (simp [boundsA, intA, *]; done)); (focus (first | exact .inr rfl | (left; omega); done)); refine RunQ.evalH ?_; simp [*])
       | (refine RunX.slOwn (a := 2) (b := m) appByte rfl rfl rfl rfl ?_ ?_ ?_; (focus (simp [boundsA, intA, *]; done)); (focus (first | exact .inr rfl | (left; omega); done)); refine RunX.evalY ?_; simp [*])
       | (refine RunQ.copy appByte rfl rfl rfl rfl rfl rfl rfl rfl rfl ?_ ?_ ?_ ?_ ?_; (focus (first | omega | (simp [*]; done); done)); (focus (first | omega | (simp [*]; done); done)); (focus (first | omega | (simp [*]; done); done)); (focus (first | omega | (simp [*]; done); done)); refine RunQ.evalH ?_; simp [*])
       | (refine RunX.copy appByte rfl rfl rfl rfl rfl rfl rfl rfl ?_ ?_ ?_ ?_ ?_; (focus (first | omega | (simp [*]; done); done)); (focus (first | omega | (simp [*]; done); done)); (focus (first | omega | (simp [*]; done); done)); (focus (first | omega | (simp [*]; done); done)); refine RunX.evalY ?_; simp [*])
       | (refine RunQ.appendZ (m := (mPad m - m)) (kk := .i64) (zv := .int .u8 0) 905 appByte rfl rfl rfl rfl (by simp) (by simp) rfl ?_ rfl rfl rfl ?_ ?_ ?_ ?_; (focus (simp (maxDischargeDepth := 120) [*]; done)); (focus (first | omega | (simp [*]; done); done)); (focus (first | omega | (simp [*]; done); done)); (focus (simp [*]; done)); refine RunQ.evalH ?_; simp [*])
       | (refine RunX.appendZ (m := (mPad m - m)) (kk := .i64) (zv := .int .u8 0) 905 appByte rfl rfl rfl rfl (by simp) (by simp) rfl ?_ rfl rfl ?_ ?_ ?_ ?_; (focus (simp (maxDischargeDepth := 120) [*]; done)); (focus (first | omega | (simp [*]; done); done)); (focus (first | omega | (simp [*]; done); done)); (focus (simp [*]; done)); refine RunX.evalY ?_; simp [*])
       | (refine RunQ.call rfl rfl rfl rfl rfl ?_ (q) ?_ ?_; (focus (simp (maxDischargeDepth := 120) [*]; done)); (focus (simp [*]; done)); refine RunQ.evalH ?_; simp [*])
       | (refine RunQ.call rfl rfl rfl rfl rfl ?_ (hm) ?_ ?_; (focus (simp (maxDischargeDepth := 120) [*]; done)); (focus (simp [*]; done)); refine RunQ.evalH ?_; simp [*])
       | (refine RunX.call rfl rfl rfl rfl ?_ (q) ?_ ?_; (focus (simp (maxDischargeDepth := 120) [*]; done)); (focus (simp [*]; done)); refine RunX.evalY ?_; simp [*])
       | (refine RunX.call rfl rfl rfl rfl ?_ (hm) ?_ ?_; (focus (simp (maxDischargeDepth := 120) [*]; done)); (focus (simp [*]; done)); refine RunX.evalY ?_; simp [*])
       | (refine WK.retT2 Try.func17 ?_ ?_ ?_ <;> simp (maxDischargeDepth := 120) [Try.results17, *])
       | fail)
    · rw [if_neg h6] at hdef
      rw [hdef]
      have hm3 : (1004 : Int) < (mAcc l).length := by omega
      obtain ⟨A, hA⟩ : ∃ A, mAcc l = A := ⟨_, rfl⟩
      rw [hA] at hm3 ⊢
      clear hdef hW hX hF hi hc hfit hT hfl hil hal hA
      repeat' (first
       | refine WK.seq ?_
       | refine WK.block ?_
       | refine WK.inBlock ?_
       | refine WK.skip ?_
       | refine WK.label ?_
       | refine WK.scope ?_
       | refine WK.inScope ?_
       | refine WK.exit rfl ?_
       | refine WK.condT rfl ?_
       | refine WK.condF rfl ?_
       | (refine Hid.h hQ _ _ ?_; clear hQ hA)
       | refine WK.condAny rfl ?_ ?_
       | (refine WK.cond2 rfl (fun h => ?_) (fun h => ?_) <;> (first | (simp [*] at h; done) | (have h2 := h; simp at h2; exfalso; omega) | (have h2 := h; simp at h2; try simp only [Bool.not_eq_true', Bool.not_eq_false'] at h) | skip))
       | (refine WK.regH Try.ntmps17 (by kernel_rfl) ?_; intro A hA Q hQ; simp [*])
       | (refine WK.regX (by kernel_rfl) Try.ntmps17 (by kernel_rfl) ?_; intro A hA Q hQ; simp [*])
       | (refine Hid.h hQ _ _ _ (by decide +kernel) ?_; clear hQ hA)
       | fail)
      repeat (first | refine WK.seq ?_ | refine WK.block ?_ | refine WK.inBlock ?_ | refine WK.skip ?_ | refine WK.label ?_ | refine WK.scope ?_ | refine WK.inScope ?_ | refine WK.exit rfl ?_)
      refine WK.ghost (Ghost.own 2 902 1 rfl rfl) ?_
      repeat (first | refine WK.seq ?_ | refine WK.block ?_ | refine WK.inBlock ?_ | refine WK.skip ?_ | refine WK.label ?_ | refine WK.scope ?_ | refine WK.inScope ?_ | refine WK.exit rfl ?_)
      refine WK.retT2 Try.func17 ?_ ?_ ?_ <;> simp (maxDischargeDepth := 120) [Try.results17, byL_nil]
end Go.Proofs.Ytibaiiibjnnlkaa
end
