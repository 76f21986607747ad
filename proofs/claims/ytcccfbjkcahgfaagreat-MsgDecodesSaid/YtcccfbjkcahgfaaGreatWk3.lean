/- Parts of a match: whether one may be, by both sides. -/
import Derived.Test.YtcccfbjkcahgfaaGreatWk2
import Derived.Test.YtcccfbjkcahgfaaGreatAf
set_option linter.all false
set_option linter.unnecessarySimpa false
namespace Go.Proofs.YtcccfbjkcahgfaaGreat
open Go Go.AI Go.Proofs
set_option maxHeartbeats 4000000 in
theorem oright_c (o : Oxm) : FnP Tryz.prog 211 [.agg o.enc] (.bool (Oxm.right o)) := by
 have hf := oform_c o
 have hm := zero_c o.mask
 simp only [Oxm.enc, Wide.enc] at hf hm
 cases k1 : fRight o.field
 · have e : Oxm.right o = false := by unfold Oxm.right; rw [k1]; rfl
   refine FnP.i Tryz.func211 rfl rfl fun G w => ?_
   repeat apply WK.s
   refine WK.g 100 Tryz.ntmps211 (by kernel_rfl) ?_
   intro A hA Q hQ
   simp [Oxm.enc]
   apply hQ
   clear hQ hA
   repeat apply WK.s
   refine WK.ghost (Ghost.frzVar 1 rfl rfl) ?_
   refine WK.g 200 Tryz.ntmps211 (by kernel_rfl) ?_
   intro A hA Q hQ
   have hg4 : (A[4]?).bind (·.dst) = some 7 := by rw [hA]; rfl
   have hg7 : (A[7]?).bind (·.dst) = some 10 := by rw [hA]; rfl
   have hg14 : (A[14]?).bind (·.dst) = some 17 := by rw [hA]; rfl
   have hg18 : (A[18]?).bind (·.dst) = some 21 := by rw [hA]; rfl
   simp [hg4, hg7, hg14, hg18]
   refine RunQ.call rfl rfl rfl rfl (by rfl) (by simp (maxDischargeDepth := 120) [k1, hg4, hg7, hg14, hg18]) (fright_c o.field) (by simp [k1, hg4, hg7, hg14, hg18]) ?_
   refine RunQ.eval ?_
   simp [k1, hg4, hg7, hg14, hg18]
   apply hQ
   clear hQ hA
   refine WK.c2 rfl (fun h => ?_) (fun h => ?_)
   · repeat apply WK.s
     refine WK.g 300 Tryz.ntmps211 (by kernel_rfl) ?_
     intro A hA Q hQ
     simp
     apply hQ
     clear hQ hA
     refine WK.t Tryz.func211 (by simp (maxDischargeDepth := 120) [Tryz.results211, e]) (by simp [e])
   · cases h
 cases k2 : o.masked
 · rw [k2] at hf
   cases k3 : o.mask.zero
   · have e : Oxm.right o = false := by unfold Oxm.right; rw [k1, k2, k3]; rfl
     rw [k3] at hm
     refine FnP.i Tryz.func211 rfl rfl fun G w => ?_
     repeat apply WK.s
     refine WK.g 100 Tryz.ntmps211 (by kernel_rfl) ?_
     intro A hA Q hQ
     simp [Oxm.enc, k2]
     apply hQ
     clear hQ hA
     repeat apply WK.s
     refine WK.ghost (Ghost.frzVar 1 rfl rfl) ?_
     refine WK.g 200 Tryz.ntmps211 (by kernel_rfl) ?_
     intro A hA Q hQ
     have hg4 : (A[4]?).bind (·.dst) = some 7 := by rw [hA]; rfl
     have hg7 : (A[7]?).bind (·.dst) = some 10 := by rw [hA]; rfl
     have hg14 : (A[14]?).bind (·.dst) = some 17 := by rw [hA]; rfl
     have hg18 : (A[18]?).bind (·.dst) = some 21 := by rw [hA]; rfl
     simp [hg4, hg7, hg14, hg18]
     refine RunQ.call rfl rfl rfl rfl (by rfl) (by simp (maxDischargeDepth := 120) [k1, hg4, hg7, hg14, hg18]) (fright_c o.field) (by simp [k1, hg4, hg7, hg14, hg18]) ?_
     refine RunQ.eval ?_
     simp [k1, hg4, hg7, hg14, hg18]
     refine RunQ.callG rfl rfl (by simp [hg14, hg18]) rfl (by rfl) (by simp (maxDischargeDepth := 120) [hg14, hg18]) (hm) (by simp [hg14, hg18]) ?_
     refine RunQ.eval ?_
     simp [hg14, hg18]
     apply hQ
     clear hQ hA
     refine WK.c2 rfl (fun h => ?_) (fun h => ?_)
     · repeat apply WK.s
       refine WK.g 300 Tryz.ntmps211 (by kernel_rfl) ?_
       intro A hA Q hQ
       simp
       apply hQ
       clear hQ hA
       refine WK.t Tryz.func211 (by simp (maxDischargeDepth := 120) [Tryz.results211, e]) (by simp [e])
     · cases h
   · have e : Oxm.right o = (Oxm.form o == 0) := by unfold Oxm.right; rw [k1, k2, k3]; rfl
     rw [k3] at hm
     refine FnP.i Tryz.func211 rfl rfl fun G w => ?_
     repeat apply WK.s
     refine WK.g 100 Tryz.ntmps211 (by kernel_rfl) ?_
     intro A hA Q hQ
     simp [Oxm.enc, k2]
     apply hQ
     clear hQ hA
     repeat apply WK.s
     refine WK.ghost (Ghost.frzVar 1 rfl rfl) ?_
     refine WK.g 200 Tryz.ntmps211 (by kernel_rfl) ?_
     intro A hA Q hQ
     have hg4 : (A[4]?).bind (·.dst) = some 7 := by rw [hA]; rfl
     have hg7 : (A[7]?).bind (·.dst) = some 10 := by rw [hA]; rfl
     have hg14 : (A[14]?).bind (·.dst) = some 17 := by rw [hA]; rfl
     have hg18 : (A[18]?).bind (·.dst) = some 21 := by rw [hA]; rfl
     simp [hg4, hg7, hg14, hg18]
     refine RunQ.call rfl rfl rfl rfl (by rfl) (by simp (maxDischargeDepth := 120) [k1, hg4, hg7, hg14, hg18]) (fright_c o.field) (by simp [k1, hg4, hg7, hg14, hg18]) ?_
     refine RunQ.eval ?_
     simp [k1, hg4, hg7, hg14, hg18]
     refine RunQ.callG rfl rfl (by simp [hg14, hg18]) rfl (by rfl) (by simp (maxDischargeDepth := 120) [hg14, hg18]) (hm) (by simp [hg14, hg18]) ?_
     refine RunQ.eval ?_
     simp [hg14, hg18]
     apply hQ
     clear hQ hA
     refine WK.c2 rfl (fun h => ?_) (fun h => ?_)
     · cases h
     repeat (first | apply WK.s | apply WK.k)
     refine WK.g 300 Tryz.ntmps211 (by kernel_rfl) ?_
     intro A hA Q hQ
     simp
     refine RunQ.call rfl rfl rfl rfl (by rfl) (by simp (maxDischargeDepth := 120)) (hf) (by simp) ?_
     refine RunQ.eval ?_
     simp
     apply hQ
     clear hQ hA
     refine WK.t Tryz.func211 (by simp (maxDischargeDepth := 120) [Tryz.results211, e]) (by simp [e])
 · rw [k2] at hf
   cases k3 : fMasks o.field
   · have e : Oxm.right o = false := by unfold Oxm.right; rw [k1, k2, k3]; rfl
     refine FnP.i Tryz.func211 rfl rfl fun G w => ?_
     repeat apply WK.s
     refine WK.g 100 Tryz.ntmps211 (by kernel_rfl) ?_
     intro A hA Q hQ
     simp [Oxm.enc, k2]
     apply hQ
     clear hQ hA
     repeat apply WK.s
     refine WK.ghost (Ghost.frzVar 1 rfl rfl) ?_
     refine WK.g 200 Tryz.ntmps211 (by kernel_rfl) ?_
     intro A hA Q hQ
     have hg4 : (A[4]?).bind (·.dst) = some 7 := by rw [hA]; rfl
     have hg7 : (A[7]?).bind (·.dst) = some 10 := by rw [hA]; rfl
     have hg14 : (A[14]?).bind (·.dst) = some 17 := by rw [hA]; rfl
     have hg18 : (A[18]?).bind (·.dst) = some 21 := by rw [hA]; rfl
     simp [hg4, hg7, hg14, hg18]
     refine RunQ.call rfl rfl rfl rfl (by rfl) (by simp (maxDischargeDepth := 120) [k1, hg4, hg7, hg14, hg18]) (fright_c o.field) (by simp [k1, hg4, hg7, hg14, hg18]) ?_
     refine RunQ.eval ?_
     simp [k1, hg4, hg7, hg14, hg18]
     refine RunQ.callG rfl rfl (by simp [k3, hg4, hg7, hg14, hg18]) rfl (by rfl) (by simp (maxDischargeDepth := 120) [k3, hg4, hg7, hg14, hg18]) (fmasks_c o.field) (by simp [k3, hg4, hg7, hg14, hg18]) ?_
     refine RunQ.eval ?_
     simp [k3, hg4, hg7, hg14, hg18]
     apply hQ
     clear hQ hA
     refine WK.c2 rfl (fun h => ?_) (fun h => ?_)
     · repeat apply WK.s
       refine WK.g 300 Tryz.ntmps211 (by kernel_rfl) ?_
       intro A hA Q hQ
       simp
       apply hQ
       clear hQ hA
       refine WK.t Tryz.func211 (by simp (maxDischargeDepth := 120) [Tryz.results211, e]) (by simp [e])
     · cases h
   · have e : Oxm.right o = (Oxm.form o == 0) := by unfold Oxm.right; rw [k1, k2, k3]; rfl
     refine FnP.i Tryz.func211 rfl rfl fun G w => ?_
     repeat apply WK.s
     refine WK.g 100 Tryz.ntmps211 (by kernel_rfl) ?_
     intro A hA Q hQ
     simp [Oxm.enc, k2]
     apply hQ
     clear hQ hA
     repeat apply WK.s
     refine WK.ghost (Ghost.frzVar 1 rfl rfl) ?_
     refine WK.g 200 Tryz.ntmps211 (by kernel_rfl) ?_
     intro A hA Q hQ
     have hg4 : (A[4]?).bind (·.dst) = some 7 := by rw [hA]; rfl
     have hg7 : (A[7]?).bind (·.dst) = some 10 := by rw [hA]; rfl
     have hg14 : (A[14]?).bind (·.dst) = some 17 := by rw [hA]; rfl
     have hg18 : (A[18]?).bind (·.dst) = some 21 := by rw [hA]; rfl
     simp [hg4, hg7, hg14, hg18]
     refine RunQ.call rfl rfl rfl rfl (by rfl) (by simp (maxDischargeDepth := 120) [k1, hg4, hg7, hg14, hg18]) (fright_c o.field) (by simp [k1, hg4, hg7, hg14, hg18]) ?_
     refine RunQ.eval ?_
     simp [k1, hg4, hg7, hg14, hg18]
     refine RunQ.callG rfl rfl (by simp [k3, hg4, hg7, hg14, hg18]) rfl (by rfl) (by simp (maxDischargeDepth := 120) [k3, hg4, hg7, hg14, hg18]) (fmasks_c o.field) (by simp [k3, hg4, hg7, hg14, hg18]) ?_
     refine RunQ.eval ?_
     simp [k3, hg4, hg7, hg14, hg18]
     apply hQ
     clear hQ hA
     refine WK.c2 rfl (fun h => ?_) (fun h => ?_)
     · cases h
     repeat (first | apply WK.s | apply WK.k)
     refine WK.g 300 Tryz.ntmps211 (by kernel_rfl) ?_
     intro A hA Q hQ
     simp
     refine RunQ.call rfl rfl rfl rfl (by rfl) (by simp (maxDischargeDepth := 120)) (hf) (by simp) ?_
     refine RunQ.eval ?_
     simp
     apply hQ
     clear hQ hA
     refine WK.t Tryz.func211 (by simp (maxDischargeDepth := 120) [Tryz.results211, e]) (by simp [e])
theorem obad_c (n : Int) : FnP Tryz.prog 159 [.int .i64 n] (.agg [.bool true, .int .i64 4, .int .i64 n]) := by
 refine FnP.i Tryz.func159 rfl rfl fun G w => ?_
 repeat apply WK.s
 refine WK.g 100 Tryz.ntmps159 (by kernel_rfl) ?_
 intro A hA Q hQ
 simp
 apply hQ
 clear hQ hA
 repeat apply WK.s
 refine WK.g 200 Tryz.ntmps159 (by kernel_rfl) ?_
 intro A hA Q hQ
 simp
 apply hQ
 clear hQ hA
 refine WK.t Tryz.func159 (by simp (maxDischargeDepth := 120) [Tryz.results159]) (by simp)
theorem robad_c (n : Int) : FnP Tryz.prog 142 [.int .i64 n] (.agg [.bool true, .int .i64 4, .int .i64 n]) := by
 refine FnP.i Tryz.func142 rfl rfl fun G w => ?_
 repeat apply WK.s
 refine WK.g 100 Tryz.ntmps142 (by kernel_rfl) ?_
 intro A hA Q hQ
 simp
 apply hQ
 clear hQ hA
 repeat apply WK.s
 refine WK.g 200 Tryz.ntmps142 (by kernel_rfl) ?_
 intro A hA Q hQ
 simp
 apply hQ
 clear hQ hA
 refine WK.t Tryz.func142 (by simp (maxDischargeDepth := 120) [Tryz.results142]) (by simp)
set_option maxHeartbeats 4000000 in
theorem roright_c (o : Oxm) : FnP Tryz.prog 119 [.agg o.enc] (.bool (Oxm.right o)) := by
 have hbits := (fRow_ok o.field).2
 have hlow := rlow2_c (fBits o.field) (by unfold fBits; omega)
 obtain ⟨A0, hA0⟩ : ∃ A0, A0 = lowW (fBits o.field) := ⟨_, rfl⟩
 rw [← hA0] at hlow
 have hm := rzero_c o.mask
 have hl1 := rless_c o.value A0
 have hz1 := rzero_c (o.value.less A0)
 have hl2 := rless_c o.mask A0
 have hz2 := rzero_c (o.mask.less A0)
 have hl3 := rless_c o.value o.mask
 have hz3 := rzero_c (o.value.less o.mask)
 simp only [Wide.enc] at hm hl1 hl2 hl3 hlow hz1 hz2 hz3
 have eb : ∀ w0 : Wide, Oxm.beyond o w0 = !(w0.less A0).zero := fun w0 => by unfold Oxm.beyond; rw [hA0]
 cases k1 : fRight o.field
 · have e : Oxm.right o = false := by unfold Oxm.right; rw [k1]; rfl
   refine FnP.i Tryz.func119 rfl rfl fun G w => ?_
   repeat apply WK.s
   refine WK.g 100 Tryz.ntmps119 (by kernel_rfl) ?_
   intro A hA Q hQ
   simp [Oxm.enc]
   apply hQ
   clear hQ hA
   repeat apply WK.s
   refine WK.ghost (Ghost.frzVar 1 rfl rfl) ?_
   refine WK.g 200 Tryz.ntmps119 (by kernel_rfl) ?_
   intro A hA Q hQ
   simp
   refine RunQ.call rfl rfl rfl rfl (by rfl) (by simp (maxDischargeDepth := 120) [k1]) (rfright_c o.field) (by simp [k1]) ?_
   refine RunQ.eval ?_
   simp [k1]
   apply hQ
   clear hQ hA
   refine WK.c2 rfl (fun h => ?_) (fun h => ?_)
   · repeat apply WK.s
     refine WK.g 300 Tryz.ntmps119 (by kernel_rfl) ?_
     intro A hA Q hQ
     simp
     apply hQ
     clear hQ hA
     refine WK.t Tryz.func119 (by simp (maxDischargeDepth := 120) [Tryz.results119, e]) (by simp [e])
   · cases h
 cases k4 : (o.value.less A0).zero
 · rw [k4] at hz1
   have e : Oxm.right o = false := by unfold Oxm.right Oxm.form; rw [eb, k4]; simp
   refine FnP.i Tryz.func119 rfl rfl fun G w => ?_
   repeat apply WK.s
   refine WK.g 100 Tryz.ntmps119 (by kernel_rfl) ?_
   intro A hA Q hQ
   simp [Oxm.enc]
   apply hQ
   clear hQ hA
   repeat apply WK.s
   refine WK.ghost (Ghost.frzVar 1 rfl rfl) ?_
   refine WK.g 200 Tryz.ntmps119 (by kernel_rfl) ?_
   intro A hA Q hQ
   simp
   refine RunQ.call rfl rfl rfl rfl (by rfl) (by simp (maxDischargeDepth := 120) [k1]) (rfright_c o.field) (by simp [k1]) ?_
   refine RunQ.eval ?_
   simp [k1]
   apply hQ
   clear hQ hA
   refine WK.c2 rfl (fun h => ?_) (fun h => ?_)
   · cases h
   repeat (first | apply WK.s | apply WK.k)
   refine WK.g 300 Tryz.ntmps119 (by kernel_rfl) ?_
   intro A hA Q hQ
   simp
   refine RunQ.call rfl rfl rfl rfl (by rfl) (by simp (maxDischargeDepth := 120)) (rfbits_c o.field) (by simp) ?_
   refine RunQ.eval ?_
   simp
   refine RunQ.call rfl rfl rfl rfl (by rfl) (by simp (maxDischargeDepth := 120)) (hlow) (by simp) ?_
   refine RunQ.eval ?_
   simp
   apply hQ
   clear hQ hA
   repeat apply WK.s
   refine WK.ghost (Ghost.frzVar 3 rfl rfl) ?_
   refine WK.g 400 Tryz.ntmps119 (by kernel_rfl) ?_
   intro A hA Q hQ
   simp
   refine RunQ.call rfl rfl rfl rfl (by rfl) (by simp (maxDischargeDepth := 120)) (hl1) (by simp) ?_
   refine RunQ.eval ?_
   simp
   refine RunQ.call rfl rfl rfl rfl (by rfl) (by simp (maxDischargeDepth := 120)) (hz1) (by simp) ?_
   refine RunQ.eval ?_
   simp
   apply hQ
   clear hQ hA
   refine WK.c2 rfl (fun h => ?_) (fun h => ?_)
   · repeat apply WK.s
     refine WK.g 500 Tryz.ntmps119 (by kernel_rfl) ?_
     intro A hA Q hQ
     simp
     apply hQ
     clear hQ hA
     refine WK.t Tryz.func119 (by simp (maxDischargeDepth := 120) [Tryz.results119, e]) (by simp [e])
   · cases h
 rw [k4] at hz1
 cases k2 : o.masked
 · have e : Oxm.right o = o.mask.zero := by unfold Oxm.right Oxm.form; rw [eb, k1, k2, k4]; cases o.mask.zero <;> rfl
   refine FnP.i Tryz.func119 rfl rfl fun G w => ?_
   repeat apply WK.s
   refine WK.g 100 Tryz.ntmps119 (by kernel_rfl) ?_
   intro A hA Q hQ
   simp [Oxm.enc, k2]
   apply hQ
   clear hQ hA
   repeat apply WK.s
   refine WK.ghost (Ghost.frzVar 1 rfl rfl) ?_
   refine WK.g 200 Tryz.ntmps119 (by kernel_rfl) ?_
   intro A hA Q hQ
   simp
   refine RunQ.call rfl rfl rfl rfl (by rfl) (by simp (maxDischargeDepth := 120) [k1]) (rfright_c o.field) (by simp [k1]) ?_
   refine RunQ.eval ?_
   simp [k1]
   apply hQ
   clear hQ hA
   refine WK.c2 rfl (fun h => ?_) (fun h => ?_)
   · cases h
   repeat (first | apply WK.s | apply WK.k)
   refine WK.g 300 Tryz.ntmps119 (by kernel_rfl) ?_
   intro A hA Q hQ
   simp
   refine RunQ.call rfl rfl rfl rfl (by rfl) (by simp (maxDischargeDepth := 120)) (rfbits_c o.field) (by simp) ?_
   refine RunQ.eval ?_
   simp
   refine RunQ.call rfl rfl rfl rfl (by rfl) (by simp (maxDischargeDepth := 120)) (hlow) (by simp) ?_
   refine RunQ.eval ?_
   simp
   apply hQ
   clear hQ hA
   repeat apply WK.s
   refine WK.ghost (Ghost.frzVar 3 rfl rfl) ?_
   refine WK.g 400 Tryz.ntmps119 (by kernel_rfl) ?_
   intro A hA Q hQ
   simp
   refine RunQ.call rfl rfl rfl rfl (by rfl) (by simp (maxDischargeDepth := 120)) (hl1) (by simp) ?_
   refine RunQ.eval ?_
   simp
   refine RunQ.call rfl rfl rfl rfl (by rfl) (by simp (maxDischargeDepth := 120)) (hz1) (by simp) ?_
   refine RunQ.eval ?_
   simp
   apply hQ
   clear hQ hA
   refine WK.c2 rfl (fun h => ?_) (fun h => ?_)
   · cases h
   repeat (first | apply WK.s | apply WK.k)
   refine WK.g 500 Tryz.ntmps119 (by kernel_rfl) ?_
   intro A hA Q hQ
   simp
   apply hQ
   clear hQ hA
   refine WK.c2 rfl (fun h => ?_) (fun h => ?_)
   · repeat apply WK.s
     refine WK.g 600 Tryz.ntmps119 (by kernel_rfl) ?_
     intro A hA Q hQ
     simp
     refine RunQ.call rfl rfl rfl rfl (by rfl) (by simp (maxDischargeDepth := 120)) (hm) (by simp) ?_
     refine RunQ.eval ?_
     simp
     apply hQ
     clear hQ hA
     refine WK.t Tryz.func119 (by simp (maxDischargeDepth := 120) [Tryz.results119, e]) (by simp [e])
   · cases h
 · have e : Oxm.right o = (fMasks o.field && (!o.mask.zero && ((o.mask.less A0).zero && (o.value.less o.mask).zero))) := by
     unfold Oxm.right Oxm.form; rw [eb, eb, k1, k2, k4]
     cases fMasks o.field <;> cases o.mask.zero <;> cases (o.mask.less A0).zero <;> cases (o.value.less o.mask).zero <;> rfl
   refine FnP.i Tryz.func119 rfl rfl fun G w => ?_
   repeat apply WK.s
   refine WK.g 100 Tryz.ntmps119 (by kernel_rfl) ?_
   intro A hA Q hQ
   simp [Oxm.enc, k2]
   apply hQ
   clear hQ hA
   repeat apply WK.s
   refine WK.ghost (Ghost.frzVar 1 rfl rfl) ?_
   refine WK.g 200 Tryz.ntmps119 (by kernel_rfl) ?_
   intro A hA Q hQ
   simp
   refine RunQ.call rfl rfl rfl rfl (by rfl) (by simp (maxDischargeDepth := 120) [k1]) (rfright_c o.field) (by simp [k1]) ?_
   refine RunQ.eval ?_
   simp [k1]
   apply hQ
   clear hQ hA
   refine WK.c2 rfl (fun h => ?_) (fun h => ?_)
   · cases h
   repeat (first | apply WK.s | apply WK.k)
   refine WK.g 300 Tryz.ntmps119 (by kernel_rfl) ?_
   intro A hA Q hQ
   simp
   refine RunQ.call rfl rfl rfl rfl (by rfl) (by simp (maxDischargeDepth := 120)) (rfbits_c o.field) (by simp) ?_
   refine RunQ.eval ?_
   simp
   refine RunQ.call rfl rfl rfl rfl (by rfl) (by simp (maxDischargeDepth := 120)) (hlow) (by simp) ?_
   refine RunQ.eval ?_
   simp
   apply hQ
   clear hQ hA
   repeat apply WK.s
   refine WK.ghost (Ghost.frzVar 3 rfl rfl) ?_
   refine WK.g 400 Tryz.ntmps119 (by kernel_rfl) ?_
   intro A hA Q hQ
   simp
   refine RunQ.call rfl rfl rfl rfl (by rfl) (by simp (maxDischargeDepth := 120)) (hl1) (by simp) ?_
   refine RunQ.eval ?_
   simp
   refine RunQ.call rfl rfl rfl rfl (by rfl) (by simp (maxDischargeDepth := 120)) (hz1) (by simp) ?_
   refine RunQ.eval ?_
   simp
   apply hQ
   clear hQ hA
   refine WK.c2 rfl (fun h => ?_) (fun h => ?_)
   · cases h
   repeat (first | apply WK.s | apply WK.k)
   refine WK.g 500 Tryz.ntmps119 (by kernel_rfl) ?_
   intro A hA Q hQ
   simp
   apply hQ
   clear hQ hA
   refine WK.c2 rfl (fun h => ?_) (fun h => ?_)
   · cases h
   cases m1 : fMasks o.field
   · rw [m1, Bool.false_and] at e
     repeat (first | apply WK.s | apply WK.k)
     refine WK.g 600 Tryz.ntmps119 (by kernel_rfl) ?_
     intro A hA Q hQ
     have hg3 : (A[3]?).bind (·.dst) = some 27 := by rw [hA]; rfl
     have hg9 : (A[9]?).bind (·.dst) = some 33 := by rw [hA]; rfl
     have hg16 : (A[16]?).bind (·.dst) = some 40 := by rw [hA]; rfl
     simp [hg3, hg9, hg16]
     refine RunQ.call rfl rfl rfl rfl (by rfl) (by simp (maxDischargeDepth := 120) [m1, hg3, hg9, hg16]) (rfmasks_c o.field) (by simp [m1, hg3, hg9, hg16]) ?_
     refine RunQ.eval ?_
     simp [m1, hg3, hg9, hg16]
     apply hQ
     clear hQ hA
     refine WK.t Tryz.func119 (by simp (maxDischargeDepth := 120) [Tryz.results119, e]) (by simp [e])
   rw [m1, Bool.true_and] at e
   cases m2 : o.mask.zero
   case true =>
     rw [m2] at hm e
     repeat (first | apply WK.s | apply WK.k)
     refine WK.g 700 Tryz.ntmps119 (by kernel_rfl) ?_
     intro A hA Q hQ
     have hg3 : (A[3]?).bind (·.dst) = some 27 := by rw [hA]; rfl
     have hg9 : (A[9]?).bind (·.dst) = some 33 := by rw [hA]; rfl
     have hg16 : (A[16]?).bind (·.dst) = some 40 := by rw [hA]; rfl
     simp [hg3, hg9, hg16]
     refine RunQ.call rfl rfl rfl rfl (by rfl) (by simp (maxDischargeDepth := 120) [m1, hg3, hg9, hg16]) (rfmasks_c o.field) (by simp [m1, hg3, hg9, hg16]) ?_
     refine RunQ.eval ?_
     simp [m1, hg3, hg9, hg16]
     refine RunQ.callG rfl rfl (by simp [hg3, hg9, hg16]) rfl (by rfl) (by simp (maxDischargeDepth := 120) [hg3, hg9, hg16]) (hm) (by simp [hg3, hg9, hg16]) ?_
     refine RunQ.eval ?_
     simp [hg3, hg9, hg16]
     apply hQ
     clear hQ hA
     refine WK.t Tryz.func119 (by simp (maxDischargeDepth := 120) [Tryz.results119, e]) (by simp [e])
   rw [m2] at hm e
   rw [Bool.not_false, Bool.true_and] at e
   cases m3 : (o.mask.less A0).zero
   · rw [m3] at hz2 e
     rw [Bool.false_and] at e
     repeat (first | apply WK.s | apply WK.k)
     refine WK.g 800 Tryz.ntmps119 (by kernel_rfl) ?_
     intro A hA Q hQ
     have hg3 : (A[3]?).bind (·.dst) = some 27 := by rw [hA]; rfl
     have hg9 : (A[9]?).bind (·.dst) = some 33 := by rw [hA]; rfl
     have hg16 : (A[16]?).bind (·.dst) = some 40 := by rw [hA]; rfl
     simp [hg3, hg9, hg16]
     refine RunQ.call rfl rfl rfl rfl (by rfl) (by simp (maxDischargeDepth := 120) [m1, hg3, hg9, hg16]) (rfmasks_c o.field) (by simp [m1, hg3, hg9, hg16]) ?_
     refine RunQ.eval ?_
     simp [m1, hg3, hg9, hg16]
     refine RunQ.callG rfl rfl (by simp [hg3, hg9, hg16]) rfl (by rfl) (by simp (maxDischargeDepth := 120) [hg3, hg9, hg16]) (hm) (by simp [hg3, hg9, hg16]) ?_
     refine RunQ.eval ?_
     simp [hg3, hg9, hg16]
     refine RunQ.callG rfl rfl (by simp [hg9, hg16]) rfl (by rfl) (by simp (maxDischargeDepth := 120) [hg9, hg16]) (hl2) (by simp [hg9, hg16]) ?_
     refine RunQ.eval ?_
     simp [hg9, hg16]
     refine RunQ.callG rfl rfl (by simp [hg9, hg16]) rfl (by rfl) (by simp (maxDischargeDepth := 120) [hg9, hg16]) (hz2) (by simp [hg9, hg16]) ?_
     refine RunQ.eval ?_
     simp [hg9, hg16]
     apply hQ
     clear hQ hA
     refine WK.t Tryz.func119 (by simp (maxDischargeDepth := 120) [Tryz.results119, e]) (by simp [e])
   · rw [m3] at hz2 e
     rw [Bool.true_and] at e
     repeat (first | apply WK.s | apply WK.k)
     refine WK.g 900 Tryz.ntmps119 (by kernel_rfl) ?_
     intro A hA Q hQ
     have hg3 : (A[3]?).bind (·.dst) = some 27 := by rw [hA]; rfl
     have hg9 : (A[9]?).bind (·.dst) = some 33 := by rw [hA]; rfl
     have hg16 : (A[16]?).bind (·.dst) = some 40 := by rw [hA]; rfl
     simp [hg3, hg9, hg16]
     refine RunQ.call rfl rfl rfl rfl (by rfl) (by simp (maxDischargeDepth := 120) [m1, hg3, hg9, hg16]) (rfmasks_c o.field) (by simp [m1, hg3, hg9, hg16]) ?_
     refine RunQ.eval ?_
     simp [m1, hg3, hg9, hg16]
     refine RunQ.callG rfl rfl (by simp [hg3, hg9, hg16]) rfl (by rfl) (by simp (maxDischargeDepth := 120) [hg3, hg9, hg16]) (hm) (by simp [hg3, hg9, hg16]) ?_
     refine RunQ.eval ?_
     simp [hg3, hg9, hg16]
     refine RunQ.callG rfl rfl (by simp [hg9, hg16]) rfl (by rfl) (by simp (maxDischargeDepth := 120) [hg9, hg16]) (hl2) (by simp [hg9, hg16]) ?_
     refine RunQ.eval ?_
     simp [hg9, hg16]
     refine RunQ.callG rfl rfl (by simp [hg9, hg16]) rfl (by rfl) (by simp (maxDischargeDepth := 120) [hg9, hg16]) (hz2) (by simp [hg9, hg16]) ?_
     refine RunQ.eval ?_
     simp [hg9, hg16]
     refine RunQ.callG rfl rfl (by simp [hg16]) rfl (by rfl) (by simp (maxDischargeDepth := 120) [hg16]) (hl3) (by simp [hg16]) ?_
     refine RunQ.eval ?_
     simp [hg16]
     refine RunQ.callG rfl rfl (by simp [hg16]) rfl (by rfl) (by simp (maxDischargeDepth := 120) [hg16]) (hz3) (by simp [hg16]) ?_
     refine RunQ.eval ?_
     simp [hg16]
     apply hQ
     clear hQ hA
     refine WK.t Tryz.func119 (by simp (maxDischargeDepth := 120) [Tryz.results119, e]) (by simp [e])

theorem nputP_c (b : List (BitVec 8)) (n : Int) (s : Nat) (hs : Sz s) (hb0 : b.length ≤ 1000000) : FnP Tryz.prog 52 [byS b, .int .i64 n, .int .i64 s] (byS (putN b n s)) := by
 have h := (nput_c b n s hs hb0).toP (by simp [byL_take])
 rwa [Nat.mul_one, by_full _ _ rfl] at h
theorem wputP_c (b : List (BitVec 8)) (a : Wide) (s : Nat) (hs : s ≤ 16) (hb0 : b.length ≤ 1000000) : FnP Tryz.prog 235 [byS b, .agg a.enc, .int .i64 s] (byS (wPut b a s)) := by
 have h := (wput_c b a s hs hb0).toP (by simp [byL_take])
 rwa [Nat.mul_one, by_full _ _ rfl] at h
theorem putN_len (b : List (BitVec 8)) (n : Int) (s : Nat) : (putN b n s).length ≤ b.length + s := by
 unfold putN; split
 · rw [List.length_append, beN_len]; omega
 · omega
def oBody (o : Oxm) : List (BitVec 8) := if o.masked then wPut (wPut [] o.value (fSize o.field)) o.mask (fSize o.field) else wPut [] o.value (fSize o.field)
def oNum (o : Oxm) : Int := if o.masked then fID o.field * 2 + 1 else fID o.field * 2
def oHead (o : Oxm) : List (BitVec 8) := putN (putN (putN [] 32768 2) (oNum o) 1) (oBody o).length 1
def oEnc (o : Oxm) : List (BitVec 8) × Int := if Oxm.right o then (oHead o ++ oBody o, 0) else ([], 1)
theorem shl_one (f : Int) : bShl .i64 (fID f) 1 = fID f * 2 := by
 have := (fRow_ok f).1
 unfold bShl fID
 show IntKind.wrap .i64 ((fRow f).1 * 2 ^ 1) = _
 rw [Int.pow_one, wrap_i64 (by omega) (by omega)]
theorem or_one_all : ∀ n : Fin 35, bOr .i64 ((n.val : Int) * 2) 1 = (n.val : Int) * 2 + 1 := by decide +kernel
theorem or_one (f : Int) (h : fRight f = true) : bOr .i64 (fID f * 2) 1 = fID f * 2 + 1 := by
 unfold fRight at h
 rw [Bool.and_eq_true, decide_eq_true_eq, decide_eq_true_eq] at h
 have hp : 0 ≤ fID f ∧ fID f ≤ 34 := by
   unfold fID fRow
   rw [if_pos ⟨h.1, h.2⟩]
   have hl : f.toNat < fRows.length := by show f.toNat < 24; omega
   have : ∀ r, r ∈ fRows → 0 ≤ r.1 ∧ r.1 ≤ 34 := by decide
   exact this _ (nth_mem hl)
 have := or_one_all ⟨(fID f).toNat, by omega⟩
 rwa [show (((⟨(fID f).toNat, by omega⟩ : Fin 35).val : Nat) : Int) = fID f by show (((fID f).toNat : Nat) : Int) = _; omega] at this
theorem right_field {o : Oxm} (h : Oxm.right o = true) : fRight o.field = true := by
 unfold Oxm.right at h
 cases hf : fRight o.field
 · rw [hf] at h; simp at h
 · rfl
theorem oBody_len (o : Oxm) : (oBody o).length = if o.masked then fSize o.field + fSize o.field else fSize o.field := by
 have := fSize_le o.field
 unfold oBody
 split
 · rw [wPut_len _ _ _ this, wPut_len _ _ _ this]; simp
 · rw [wPut_len _ _ _ this]; simp
set_option maxHeartbeats 4000000 in
theorem oenc_c (o : Oxm) : FnP Tryz.prog 238 [.agg o.enc] (.tup [byS (oEnc o).1, .int .i64 (oEnc o).2]) := by
 have hr := oright_c o
 have hsz := fSize_le o.field
 have hid := (fRow_ok o.field).1
 have hbl := oBody_len o
 have hsh := shl_one o.field
 have p1 := nputP_c [] 32768 2 (by unfold Sz; omega) (by simp)
 rw [show byS [] = .sl false 0 [] from rfl] at p1
 have l1 := putN_len [] 32768 2
 have hbl2 : (oBody o).length ≤ 32 := by rw [hbl]; split <;> omega
 simp only [Oxm.enc] at hr
 cases k : Oxm.right o
 · have e : oEnc o = ([], 1) := by unfold oEnc; rw [k]; rfl
   rw [k] at hr
   refine FnP.i Tryz.func238 rfl rfl fun G w => ?_
   repeat apply WK.s
   refine WK.g 100 Tryz.ntmps238 (by kernel_rfl) ?_
   intro A hA Q hQ
   simp [Oxm.enc]
   apply hQ
   clear hQ hA
   repeat apply WK.s
   refine WK.ghost (Ghost.frzVar 1 rfl rfl) ?_
   refine WK.g 200 Tryz.ntmps238 (by kernel_rfl) ?_
   intro A hA Q hQ
   simp
   refine RunQ.call rfl rfl rfl rfl (by rfl) (by simp (maxDischargeDepth := 120)) (hr) (by simp) ?_
   refine RunQ.eval ?_
   simp
   apply hQ
   clear hQ hA
   refine WK.c2 rfl (fun h => ?_) (fun h => ?_)
   · repeat apply WK.s
     refine WK.g 300 Tryz.ntmps238 (by kernel_rfl) ?_
     intro A hA Q hQ
     simp
     apply hQ
     clear hQ hA
     refine WK.t Tryz.func238 (by simp (maxDischargeDepth := 120) [Tryz.results238, e, byS, b0_]) (by simp [e, byS, b0_])
   · cases h
 rw [k] at hr
 have e : oEnc o = (oHead o ++ oBody o, 0) := by unfold oEnc; rw [k]; rfl
 have hor := or_one o.field (right_field k)
 obtain ⟨b1, hb1⟩ : ∃ b1, b1 = putN [] 32768 2 := ⟨_, rfl⟩
 rw [← hb1] at p1 l1
 simp only [List.length_nil, Nat.zero_add] at l1
 have p2 := nputP_c b1 (oNum o) 1 (by unfold Sz; omega) (by omega)
 have l2 := putN_len b1 (oNum o) 1
 have p3 := nput_c (putN b1 (oNum o) 1) (oBody o).length 1 (by unfold Sz; omega) (by omega)
 have eh : oHead o = putN (putN b1 (oNum o) 1) (oBody o).length 1 := by unfold oHead; rw [hb1]
 have l3 := putN_len (putN b1 (oNum o) 1) (oBody o).length 1
 rw [← eh] at p3 l3
 obtain ⟨b2, hb2⟩ : ∃ b2, b2 = putN b1 (oNum o) 1 := ⟨_, rfl⟩
 rw [← hb2] at p2 p3
 have q1 := wputP_c [] o.value (fSize o.field) hsz (by simp)
 rw [show byS [] = .sl false 0 [] from rfl] at q1
 have hf := by_full (oBody o) _ rfl
 have hbd : (oHead o).length + (oBody o).length ≤ 140737488355328 := by omega
 have hT : (byL (oHead o) ++ byL (oBody o)).take ((oHead o).length + (oBody o).length) = byL (oHead o) ++ byL (oBody o) := List.take_of_length_le (by simp)
 refine FnP.i Tryz.func238 rfl rfl fun G w => ?_
 repeat apply WK.s
 refine WK.g 100 Tryz.ntmps238 (by kernel_rfl) ?_
 intro A hA Q hQ
 simp [Oxm.enc]
 apply hQ
 clear hQ hA
 repeat apply WK.s
 refine WK.ghost (Ghost.frzVar 1 rfl rfl) ?_
 refine WK.g 200 Tryz.ntmps238 (by kernel_rfl) ?_
 intro A hA Q hQ
 simp
 refine RunQ.call rfl rfl rfl rfl (by rfl) (by simp (maxDischargeDepth := 120)) (hr) (by simp) ?_
 refine RunQ.eval ?_
 simp
 apply hQ
 clear hQ hA
 refine WK.c2 rfl (fun h => ?_) (fun h => ?_)
 · cases h
 repeat (first | apply WK.s | apply WK.k)
 refine WK.g 300 Tryz.ntmps238 (by kernel_rfl) ?_
 intro A hA Q hQ
 simp
 refine RunQ.call rfl rfl rfl rfl (by rfl) (by simp (maxDischargeDepth := 120)) (fsize_c o.field) (by simp) ?_
 refine RunQ.eval ?_
 simp
 apply hQ
 clear hQ hA
 repeat apply WK.s
 apply WK.cut (⟨(upd (upd J 5 (.sl false (oBody o).length (byL (oBody o)))) 6 (.int .i64 (oNum o))), B0, 0⟩ : St)
 · intro hcut
   simp only [Wide.enc] at q1
   cases m : o.masked
   · have eb : oBody o = wPut [] o.value (fSize o.field) := by unfold oBody; rw [m]; rfl
     have en : oNum o = fID o.field * 2 := by unfold oNum; rw [m]; rfl
     rw [← eb] at q1
     refine WK.g 400 Tryz.ntmps238 (by kernel_rfl) ?_
     intro A hA Q hQ
     simp
     refine RunQ.call rfl rfl rfl rfl (by rfl) (by simp (maxDischargeDepth := 120)) (q1) (by simp) ?_
     refine RunQ.eval ?_
     simp
     apply hQ
     clear hQ hA
     repeat apply WK.s
     refine WK.g 500 Tryz.ntmps238 (by kernel_rfl) ?_
     intro A hA Q hQ
     simp
     refine RunQ.call rfl rfl rfl rfl (by rfl) (by simp (maxDischargeDepth := 120) [hsh]) (fid_c o.field) (by simp [hsh]) ?_
     refine RunQ.eval ?_
     simp [hsh]
     apply hQ
     clear hQ hA
     repeat apply WK.s
     refine WK.g 600 Tryz.ntmps238 (by kernel_rfl) ?_
     intro A hA Q hQ
     simp [m]
     apply hQ
     clear hQ hA
     refine WK.c2 rfl (fun h => ?_) (fun h => ?_)
     · cases h
     · repeat (first | apply WK.s | apply WK.k)
       refine WK.next (fun n => n) hcut (by repeat (first | exact TmW.nil | refine TmW.upd ?_ (by simp (maxDischargeDepth := 120) [en, byS]))) (by repeat (first | exact BxW.nil | refine BxW.upd ?_ (by simp (maxDischargeDepth := 120) [en, byS]))) InjW.id
   · have eb : oBody o = wPut (wPut [] o.value (fSize o.field)) o.mask (fSize o.field) := by unfold oBody; rw [m]; rfl
     have en : oNum o = fID o.field * 2 + 1 := by unfold oNum; rw [m]; rfl
     have l4 := wPut_len [] o.value (fSize o.field) hsz
     have q2 := wputP_c (wPut [] o.value (fSize o.field)) o.mask (fSize o.field) hsz (by rw [l4]; simp; omega)
     rw [← eb] at q2
     simp only [Wide.enc] at q2
     obtain ⟨b4, hb4⟩ : ∃ b4, b4 = wPut [] o.value (fSize o.field) := ⟨_, rfl⟩
     rw [← hb4] at q1 q2
     refine WK.g 700 Tryz.ntmps238 (by kernel_rfl) ?_
     intro A hA Q hQ
     simp
     refine RunQ.call rfl rfl rfl rfl (by rfl) (by simp (maxDischargeDepth := 120)) (q1) (by simp) ?_
     refine RunQ.eval ?_
     simp
     apply hQ
     clear hQ hA
     repeat apply WK.s
     refine WK.g 800 Tryz.ntmps238 (by kernel_rfl) ?_
     intro A hA Q hQ
     simp
     refine RunQ.call rfl rfl rfl rfl (by rfl) (by simp (maxDischargeDepth := 120) [hsh]) (fid_c o.field) (by simp [hsh]) ?_
     refine RunQ.eval ?_
     simp [hsh]
     apply hQ
     clear hQ hA
     repeat apply WK.s
     refine WK.g 900 Tryz.ntmps238 (by kernel_rfl) ?_
     intro A hA Q hQ
     simp [m]
     apply hQ
     clear hQ hA
     refine WK.c2 rfl (fun h => ?_) (fun h => ?_)
     · repeat apply WK.s
       refine WK.g 1000 Tryz.ntmps238 (by kernel_rfl) ?_
       intro A hA Q hQ
       simp
       refine RunQ.call rfl rfl rfl rfl (by rfl) (by simp (maxDischargeDepth := 120)) (q2) (by simp) ?_
       refine RunQ.eval ?_
       simp
       apply hQ
       clear hQ hA
       refine WK.g 1100 Tryz.ntmps238 (by kernel_rfl) ?_
       intro A hA Q hQ
       simp [hor]
       apply hQ
       clear hQ hA
       repeat apply WK.s
       refine WK.next (fun n => n) hcut (by repeat (first | exact TmW.nil | refine TmW.upd ?_ (by simp (maxDischargeDepth := 120) [en, byS]))) (by repeat (first | exact BxW.nil | refine BxW.upd ?_ (by simp (maxDischargeDepth := 120) [en, byS]))) InjW.id
     · cases h
 refine WK.g 1200 Tryz.ntmps238 (by kernel_rfl) ?_
 intro A hA Q hQ
 simp
 refine RunQ.call rfl rfl rfl rfl (by rfl) (by simp (maxDischargeDepth := 120)) (p1) (by simp) ?_
 refine RunQ.eval ?_
 simp
 refine RunQ.call rfl rfl rfl rfl (by rfl) (by simp (maxDischargeDepth := 120)) (p2) (by simp) ?_
 refine RunQ.eval ?_
 simp
 refine RunQ.callO 900 rfl rfl rfl (by simp) (by rfl) (by simp (maxDischargeDepth := 120)) (p3) (by simp) (by simp) (by simp) ?_
 refine RunQ.eval ?_
 simp
 apply hQ
 clear hQ hA
 repeat apply WK.s
 refine WK.g 1300 Tryz.ntmps238 (by kernel_rfl) ?_
 intro A hA Q hQ
 simp
 refine RunQ.append 901 appByte rfl rfl rfl rfl rfl rfl rfl (by simp [hbd, hf]) rfl (by simp [hbd, hf]) (by simp [hbd, hf]) (by simp [hbd, hf]) (by simp [hbd, hf]) ?_
 refine RunQ.eval ?_
 simp [hbd, hf]
 apply hQ
 clear hQ hA
 refine WK.ghost (Ghost.frzSl 2 1 rfl rfl) ?_
 refine WK.t Tryz.func238 (by simp (maxDischargeDepth := 120) [Tryz.results238, e, byS, byL_app, hT]) (by simp [e, byS, byL_app, hT])

def bAt (b : List (BitVec 8)) (i : Nat) : Nat := (nth b i).toNat
def hField (b : List (BitVec 8)) : Int × Bool := fIndex (bAt b 2 / 2 : Nat)
def hMasked (b : List (BitVec 8)) : Bool := bAt b 2 % 2 == 1
def hWant (b : List (BitVec 8)) : Nat := if hMasked b then fSize (hField b).1 * 2 else fSize (hField b).1
def hCode (b : List (BitVec 8)) : Int :=
 if b.length < 4 then 1 else if b.length < 4 + bAt b 3 then 1
 else if bAt b 0 != 128 || (bAt b 1 != 0 || !(hField b).2) then 6
 else if hMasked b && !fMasks (hField b).1 then 8
 else if bAt b 3 != hWant b then 1 else 0
theorem u8_and : ∀ x : BitVec 8, bAnd .u8 (bI x) 1 = ((x.toNat % 2 : Nat) : Int) := by
 intro x
 have h : ∀ n : Fin 256, bAnd .u8 ((n.val : Int)) 1 = ((n.val % 2 : Nat) : Int) := by decide +kernel
 exact h ⟨x.toNat, x.isLt⟩
theorem u8_shr : ∀ x : BitVec 8, bShr .u8 (bI x) 1 = ((x.toNat / 2 : Nat) : Int) := by
 intro x
 have h : ∀ n : Fin 256, bShr .u8 ((n.val : Int)) 1 = ((n.val / 2 : Nat) : Int) := by decide +kernel
 exact h ⟨x.toNat, x.isLt⟩
theorem bI_nat (b : List (BitVec 8)) (i : Nat) : bI (nth b i) = (bAt b i : Int) := rfl
theorem bAt_lt (b : List (BitVec 8)) (i : Nat) : bAt b i < 256 := (nth b i).isLt
def hRes (b : List (BitVec 8)) : List AV := if hCode b = 0 then [.int .i64 (hField b).1, .bool (hMasked b), .int .i64 (bAt b 3 : Nat), .int .i64 0] else [.int .i64 0, .bool false, .int .i64 0, .int .i64 (hCode b)]
set_option maxHeartbeats 4000000 in
theorem ohead_c (b : List (BitVec 8)) (hb0 : b.length ≤ 9223372036854775807) : FnP Tryz.prog 158 [byS b] (.tup (hRes b)) := by
 unfold byS
 by_cases h4 : b.length < 4
 · have e : hCode b = 1 := by unfold hCode; rw [if_pos h4]
   have er : hRes b = [.int .i64 0, .bool false, .int .i64 0, .int .i64 1] := by unfold hRes; rw [if_neg (by omega), e]
   rw [er]
   refine FnP.i Tryz.func158 rfl rfl fun G w => ?_
   repeat apply WK.s
   refine WK.g 100 Tryz.ntmps158 (by kernel_rfl) ?_
   intro A hA Q hQ
   simp
   apply hQ
   clear hQ hA
   repeat apply WK.s
   refine WK.g 200 Tryz.ntmps158 (by kernel_rfl) ?_
   intro A hA Q hQ
   simp [h4]
   apply hQ
   clear hQ hA
   refine WK.c2 rfl (fun h => ?_) (fun h => ?_)
   · repeat apply WK.s
     refine WK.g 300 Tryz.ntmps158 (by kernel_rfl) ?_
     intro A hA Q hQ
     simp
     apply hQ
     clear hQ hA
     refine WK.t Tryz.func158 (by simp (maxDischargeDepth := 120) [Tryz.results158]) (by simp)
   · simp at h; omega
 have i0 : 0 < b.length := by omega
 have i1 : 1 < b.length := by omega
 have i2 : 2 < b.length := by omega
 have i3 : 3 < b.length := by omega
 have j0 : (0 : Int) < b.length := by omega
 have j1 : (1 : Int) < b.length := by omega
 have j2 : (2 : Int) < b.length := by omega
 have j3 : (3 : Int) < b.length := by omega
 have g0 := by_get b 0 i0
 have g1 := by_get b 1 i1
 have g2 := by_get b 2 i2
 have g3 := by_get b 3 i3
 have l2 := bAt_lt b 2
 have l3 := bAt_lt b 3
 have m1 := u8_and (nth b 2)
 have m2 := u8_shr (nth b 2)
 have m3 : IntKind.i64.wrap (bI (nth b 3)) = (bAt b 3 : Int) := by rw [bI_nat]; exact wrap_i64 (by omega) (by omega)
 have m4 : IntKind.i64.wrap (((nth b 2).toNat / 2 : Nat) : Int) = ((bAt b 2 / 2 : Nat) : Int) := by show IntKind.i64.wrap ((bAt b 2 / 2 : Nat) : Int) = _; exact wrap_i64 (by omega) (by omega)
 have hfi := findex_c ((bAt b 2 / 2 : Nat) : Int)
 obtain ⟨q, hq⟩ : ∃ q, q = bAt b 2 / 2 := ⟨_, rfl⟩
 have hF : hField b = fIndex q := by unfold hField; rw [hq]
 rw [← hq] at m4 hfi
 have m2' : bShr .u8 (bI (nth b 2)) 1 = (q : Int) := by rw [m2, hq]; rfl
 have m4' : IntKind.i64.wrap (q : Int) = q := wrap_i64 (by omega) (by omega)
 rw [← hF] at hfi
 have hsz := fSize_le (hField b).1
 have hfs := fsize_c (hField b).1
 obtain ⟨f, ok⟩ : ∃ f : Int × Bool, f = hField b := ⟨_, rfl⟩
 refine FnP.i Tryz.func158 rfl rfl fun G w => ?_
 repeat apply WK.s
 refine WK.g 100 Tryz.ntmps158 (by kernel_rfl) ?_
 intro A hA Q hQ
 simp
 apply hQ
 clear hQ hA
 repeat apply WK.s
 refine WK.g 200 Tryz.ntmps158 (by kernel_rfl) ?_
 intro A hA Q hQ
 simp
 apply hQ
 clear hQ hA
 refine WK.c2 rfl (fun h => ?_) (fun h => ?_)
 · simp at h; omega
 repeat (first | apply WK.s | apply WK.k)
 apply WK.cut (⟨(upd (upd (upd J 0 (.sl false b.length (byL b))) 6 (.int .i64 (bAt b 3 : Nat))) 7 (.bool (hMasked b))), B0, 0⟩ : St)
 · intro hcut
   cases hm : hMasked b
   · have m5 : bAnd .u8 (bI (nth b 2)) 1 = 0 := by
       rw [m1]
       have h1 : ¬ ((nth b 2).toNat % 2 = 1) := by intro h1; unfold hMasked bAt at hm; rw [h1] at hm; cases hm
       have h2 : (nth b 2).toNat % 2 = 0 := by omega
       rw [h2]; rfl
     refine WK.regD 300 clsOf (by kernel_rfl) Tryz.ntmps158 (by kernel_rfl) (by kernel_rfl) ?_
     intro A hA Q hQ
     simp [g2, g3, m3, m5, i2, i3, j2, j3]
     apply hQ
     clear hQ hA
     repeat apply WK.s
     refine WK.next (fun n => n) hcut (by repeat (first | exact TmW.nil | refine TmW.upd ?_ (by simp (maxDischargeDepth := 120) [hm]))) (by repeat (first | exact BxW.nil | refine BxW.upd ?_ (by simp (maxDischargeDepth := 120) [hm]))) InjW.id
   · have m5 : bAnd .u8 (bI (nth b 2)) 1 = 1 := by
       rw [m1]
       have h2 : (nth b 2).toNat % 2 = 1 := by unfold hMasked bAt at hm; simpa using hm
       rw [h2]; rfl
     refine WK.regD 400 clsOf (by kernel_rfl) Tryz.ntmps158 (by kernel_rfl) (by kernel_rfl) ?_
     intro A hA Q hQ
     simp [g2, g3, m3, m5, i2, i3, j2, j3]
     apply hQ
     clear hQ hA
     repeat apply WK.s
     refine WK.next (fun n => n) hcut (by repeat (first | exact TmW.nil | refine TmW.upd ?_ (by simp (maxDischargeDepth := 120) [hm]))) (by repeat (first | exact BxW.nil | refine BxW.upd ?_ (by simp (maxDischargeDepth := 120) [hm]))) InjW.id
 refine WK.g 500 Tryz.ntmps158 (by kernel_rfl) ?_
 intro A hA Q hQ
 simp [g2, m2', m4', i2, j2]
 refine RunQ.call rfl rfl rfl rfl (by rfl) (by simp (maxDischargeDepth := 120)) (hfi) (by simp) ?_
 refine RunQ.eval ?_
 simp
 apply hQ
 clear hQ hA
 repeat apply WK.s
 refine WK.g 600 Tryz.ntmps158 (by kernel_rfl) ?_
 intro A hA Q hQ
 simp
 refine RunQ.call rfl rfl rfl rfl (by rfl) (by simp (maxDischargeDepth := 120)) (hfs) (by simp) ?_
 refine RunQ.eval ?_
 simp
 apply hQ
 clear hQ hA
 repeat apply WK.s
 apply WK.cut (⟨(upd (upd (upd (upd (upd (upd J 0 (.sl false b.length (byL b))) 6 (.int .i64 (bAt b 3 : Nat))) 7 (.bool (hMasked b))) 8 (.int .i64 (hField b).1)) 9 (.bool (hField b).2)) 10 (.int .i64 (hWant b))), B0, 0⟩ : St)
 · intro hcut
   refine WK.g 700 Tryz.ntmps158 (by kernel_rfl) ?_
   intro A hA Q hQ
   simp
   apply hQ
   clear hQ hA
   cases hm : hMasked b
   · have ew : hWant b = fSize (hField b).1 := by unfold hWant; rw [hm]; rfl
     refine WK.c2 rfl (fun h => ?_) (fun h => ?_)
     · cases h
     · repeat (first | apply WK.s | apply WK.b | apply WK.k)
       refine WK.next (fun n => n) hcut (by repeat (first | exact TmW.nil | refine TmW.upd ?_ (by simp (maxDischargeDepth := 120) [ew, hm]))) (by repeat (first | exact BxW.nil | refine BxW.upd ?_ (by simp (maxDischargeDepth := 120) [ew, hm]))) InjW.id
   · have ew : hWant b = fSize (hField b).1 * 2 := by unfold hWant; rw [hm]; rfl
     have w1 : IntKind.i64.wrap ((fSize (hField b).1 : Int) * 2) = (fSize (hField b).1 : Int) * 2 := wrap_i64 (by omega) (by omega)
     refine WK.c2 rfl (fun h => ?_) (fun h => ?_)
     · refine WK.g 800 Tryz.ntmps158 (by kernel_rfl) ?_
       intro A hA Q hQ
       simp [w1]
       apply hQ
       clear hQ hA
       repeat (first | apply WK.s | apply WK.b)
       refine WK.next (fun n => n) hcut (by repeat (first | exact TmW.nil | refine TmW.upd ?_ (by simp (maxDischargeDepth := 120) [ew, w1, hm]))) (by repeat (first | exact BxW.nil | refine BxW.upd ?_ (by simp (maxDischargeDepth := 120) [ew, w1, hm]))) InjW.id
     · cases h
 have w4 : IntKind.i64.wrap (4 + (bAt b 3 : Int)) = 4 + (bAt b 3 : Int) := wrap_i64 (by omega) (by omega)
 by_cases c1 : b.length < 4 + bAt b 3
 · have e : hCode b = 1 := by unfold hCode; rw [if_neg h4, if_pos c1]
   have er : hRes b = [.int .i64 0, .bool false, .int .i64 0, .int .i64 1] := by unfold hRes; rw [if_neg (by omega), e]
   have d1 : (b.length : Int) < 4 + (bAt b 3 : Int) := by omega
   rw [er]
   refine WK.g 900 Tryz.ntmps158 (by kernel_rfl) ?_
   intro A hA Q hQ
   simp [w4, d1]
   apply hQ
   clear hQ hA
   refine WK.c2 rfl (fun h => ?_) (fun h => ?_)
   · repeat apply WK.s
     refine WK.g 1000 Tryz.ntmps158 (by kernel_rfl) ?_
     intro A hA Q hQ
     simp
     apply hQ
     clear hQ hA
     refine WK.t Tryz.func158 (by simp (maxDischargeDepth := 120) [Tryz.results158]) (by simp)
   · cases h
 have d1 : ¬ (b.length : Int) < 4 + (bAt b 3 : Int) := by omega
 refine WK.g 1100 Tryz.ntmps158 (by kernel_rfl) ?_
 intro A hA Q hQ
 simp [w4, d1]
 apply hQ
 clear hQ hA
 refine WK.c2 rfl (fun h => ?_) (fun h => ?_)
 · cases h
 have z0 : (bI (nth b 0) == 128) = (bAt b 0 == 128) := by rw [bI_nat, Bool.eq_iff_iff, beq_iff_eq, beq_iff_eq]; omega
 have z1 : (bI (nth b 1) == 0) = (bAt b 1 == 0) := by rw [bI_nat, Bool.eq_iff_iff, beq_iff_eq, beq_iff_eq]; omega
 have z3 : ((bAt b 3 : Int) == (hWant b : Int)) = (bAt b 3 == hWant b) := by rw [Bool.eq_iff_iff, beq_iff_eq, beq_iff_eq]; omega
 repeat apply WK.s
 apply WK.cut (⟨(upd (upd (upd (upd (upd (upd (upd J 0 (.sl false b.length (byL b))) 6 (.int .i64 (bAt b 3 : Nat))) 7 (.bool (hMasked b))) 8 (.int .i64 (hField b).1)) 9 (.bool (hField b).2)) 10 (.int .i64 (hWant b))) 43 (.bool (bAt b 0 != 128 || (bAt b 1 != 0 || !(hField b).2)))), B0, 0⟩ : St)
 · intro hcut
   cases k0 : bAt b 0 == 128
   · rw [k0] at z0
     refine WK.g 1200 Tryz.ntmps158 (by kernel_rfl) ?_
     intro A hA Q hQ
     have hg4 : (A[4]?).bind (·.dst) = some 48 := by rw [hA]; rfl
     have hg10 : (A[10]?).bind (·.dst) = some 54 := by rw [hA]; rfl
     simp [g0, g1, i0, i1, j0, j1, z0, bne, hg4, hg10]
     apply hQ
     clear hQ hA
     refine WK.next (fun n => n) hcut (by repeat (first | exact TmW.nil | refine TmW.upd ?_ (by simp (maxDischargeDepth := 120) [bne, k0]))) (by repeat (first | exact BxW.nil | refine BxW.upd ?_ (by simp (maxDischargeDepth := 120) [bne, k0]))) InjW.id
   · rw [k0] at z0
     cases k1 : bAt b 1 == 0
     · rw [k1] at z1
       refine WK.g 1300 Tryz.ntmps158 (by kernel_rfl) ?_
       intro A hA Q hQ
       have hg4 : (A[4]?).bind (·.dst) = some 48 := by rw [hA]; rfl
       have hg10 : (A[10]?).bind (·.dst) = some 54 := by rw [hA]; rfl
       simp [g0, g1, i0, i1, j0, j1, z0, z1, bne, hg4, hg10]
       apply hQ
       clear hQ hA
       refine WK.next (fun n => n) hcut (by repeat (first | exact TmW.nil | refine TmW.upd ?_ (by simp (maxDischargeDepth := 120) [bne, k0, k1]))) (by repeat (first | exact BxW.nil | refine BxW.upd ?_ (by simp (maxDischargeDepth := 120) [bne, k0, k1]))) InjW.id
     · rw [k1] at z1
       refine WK.g 1400 Tryz.ntmps158 (by kernel_rfl) ?_
       intro A hA Q hQ
       have hg4 : (A[4]?).bind (·.dst) = some 48 := by rw [hA]; rfl
       have hg10 : (A[10]?).bind (·.dst) = some 54 := by rw [hA]; rfl
       simp [g0, g1, i0, i1, j0, j1, z0, z1, bne, hg4, hg10]
       apply hQ
       clear hQ hA
       refine WK.next (fun n => n) hcut (by repeat (first | exact TmW.nil | refine TmW.upd ?_ (by simp (maxDischargeDepth := 120) [bne, k0, k1]))) (by repeat (first | exact BxW.nil | refine BxW.upd ?_ (by simp (maxDischargeDepth := 120) [bne, k0, k1]))) InjW.id
 refine WK.c2 rfl (fun h6 => ?_) (fun h6 => ?_)
 · have e : hCode b = 6 := by unfold hCode; rw [if_neg h4, if_neg c1, if_pos h6]
   have er : hRes b = [.int .i64 0, .bool false, .int .i64 0, .int .i64 6] := by unfold hRes; rw [if_neg (by omega), e]
   rw [er]
   repeat apply WK.s
   refine WK.g 1500 Tryz.ntmps158 (by kernel_rfl) ?_
   intro A hA Q hQ
   simp
   apply hQ
   clear hQ hA
   refine WK.t Tryz.func158 (by simp (maxDischargeDepth := 120) [Tryz.results158]) (by simp)
 have h6' : ¬ (bAt b 0 != 128 || (bAt b 1 != 0 || !(hField b).2)) = true := by rw [h6]; exact Bool.false_ne_true
 have hmk := fmasks_c (hField b).1
 repeat apply WK.s
 apply WK.cut (⟨(upd (upd (upd (upd (upd (upd (upd J 0 (.sl false b.length (byL b))) 6 (.int .i64 (bAt b 3 : Nat))) 7 (.bool (hMasked b))) 8 (.int .i64 (hField b).1)) 9 (.bool (hField b).2)) 10 (.int .i64 (hWant b))) 58 (.bool (hMasked b && !fMasks (hField b).1))), B0, 0⟩ : St)
 · intro hcut
   cases k0 : hMasked b
   · refine WK.g 1600 Tryz.ntmps158 (by kernel_rfl) ?_
     intro A hA Q hQ
     have hg1 : (A[1]?).bind (·.dst) = some 60 := by rw [hA]; rfl
     simp [k0, hg1]
     apply hQ
     clear hQ hA
     refine WK.next (fun n => n) hcut (by repeat (first | exact TmW.nil | refine TmW.upd ?_ (by simp (maxDischargeDepth := 120) [k0]))) (by repeat (first | exact BxW.nil | refine BxW.upd ?_ (by simp (maxDischargeDepth := 120) [k0]))) InjW.id
   · refine WK.g 1700 Tryz.ntmps158 (by kernel_rfl) ?_
     intro A hA Q hQ
     have hg1 : (A[1]?).bind (·.dst) = some 60 := by rw [hA]; rfl
     simp [k0, hg1]
     refine RunQ.callG rfl rfl (by simp [hg1]) rfl (by rfl) (by simp (maxDischargeDepth := 120) [hg1]) (hmk) (by simp [hg1]) ?_
     refine RunQ.eval ?_
     simp [hg1]
     apply hQ
     clear hQ hA
     refine WK.next (fun n => n) hcut (by repeat (first | exact TmW.nil | refine TmW.upd ?_ (by simp (maxDischargeDepth := 120) [k0]))) (by repeat (first | exact BxW.nil | refine BxW.upd ?_ (by simp (maxDischargeDepth := 120) [k0]))) InjW.id
 refine WK.c2 rfl (fun h8 => ?_) (fun h8 => ?_)
 · have e : hCode b = 8 := by unfold hCode; rw [if_neg h4, if_neg c1, if_neg h6', if_pos h8]
   have er : hRes b = [.int .i64 0, .bool false, .int .i64 0, .int .i64 8] := by unfold hRes; rw [if_neg (by omega), e]
   rw [er]
   repeat apply WK.s
   refine WK.g 1800 Tryz.ntmps158 (by kernel_rfl) ?_
   intro A hA Q hQ
   simp
   apply hQ
   clear hQ hA
   refine WK.t Tryz.func158 (by simp (maxDischargeDepth := 120) [Tryz.results158]) (by simp)
 have h8' : ¬ (hMasked b && !fMasks (hField b).1) = true := by rw [h8]; exact Bool.false_ne_true
 cases k3 : bAt b 3 == hWant b
 · rw [k3] at z3
   have e : hCode b = 1 := by unfold hCode; rw [if_neg h4, if_neg c1, if_neg h6', if_neg h8', if_pos (by rw [bne, k3]; rfl)]
   have er : hRes b = [.int .i64 0, .bool false, .int .i64 0, .int .i64 1] := by unfold hRes; rw [if_neg (by omega), e]
   rw [er]
   repeat apply WK.s
   refine WK.g 1900 Tryz.ntmps158 (by kernel_rfl) ?_
   intro A hA Q hQ
   simp [z3, bne]
   apply hQ
   clear hQ hA
   refine WK.c2 rfl (fun h => ?_) (fun h => ?_)
   · repeat apply WK.s
     refine WK.g 2000 Tryz.ntmps158 (by kernel_rfl) ?_
     intro A hA Q hQ
     simp
     apply hQ
     clear hQ hA
     refine WK.t Tryz.func158 (by simp (maxDischargeDepth := 120) [Tryz.results158]) (by simp)
   · cases h
 · rw [k3] at z3
   have e : hCode b = 0 := by unfold hCode; rw [if_neg h4, if_neg c1, if_neg h6', if_neg h8', if_neg (by rw [bne, k3]; exact Bool.false_ne_true)]
   have er : hRes b = [.int .i64 (hField b).1, .bool (hMasked b), .int .i64 (bAt b 3 : Nat), .int .i64 0] := by unfold hRes; rw [if_pos e]
   rw [er]
   repeat apply WK.s
   refine WK.g 2100 Tryz.ntmps158 (by kernel_rfl) ?_
   intro A hA Q hQ
   simp [z3, bne]
   apply hQ
   clear hQ hA
   refine WK.c2 rfl (fun h => ?_) (fun h => ?_)
   · cases h
   · repeat (first | apply WK.s | apply WK.n | apply WK.k)
     refine WK.g 2200 Tryz.ntmps158 (by kernel_rfl) ?_
     intro A hA Q hQ
     simp
     apply hQ
     clear hQ hA
     refine WK.t Tryz.func158 (by simp (maxDischargeDepth := 120) [Tryz.results158]) (by simp)

def oxm0 : Oxm := ⟨0, false, wideZ, wideZ⟩
def oRead (b : List (BitVec 8)) : Oxm := ⟨(hField b).1, hMasked b, (wGet (b.drop 4) (fSize (hField b).1)).1,
 if hMasked b then (wGet (b.drop (4 + fSize (hField b).1)) (fSize (hField b).1)).1 else wideZ⟩
def oDec (b : List (BitVec 8)) : Oxm × Int × Int :=
 if hCode b = 0 then (if Oxm.form (oRead b) = 0 then (oRead b, 4 + bAt b 3, 0) else (oxm0, 0, Oxm.form (oRead b))) else (oxm0, 0, hCode b)
def oFault (c : Int) : List AV := if c = 0 then [.bool false, .int .i64 0, .int .i64 0] else [.bool true, .int .i64 4, .int .i64 c]
theorem oxm0_enc : oxm0.enc = [.int .i64 0, .bool false, .int .u64 0, .int .u64 0, .int .u64 0, .int .u64 0] := rfl
set_option maxHeartbeats 4000000 in
theorem odec_c (b : List (BitVec 8)) (hb0 : b.length ≤ 9223372036854775807) : FnP Tryz.prog 129 [byS b] (.tup [.agg (oDec b).1.enc, .int .i64 (oDec b).2.1, .agg (oFault (oDec b).2.2)]) := by
 have hh := ohead_c b hb0
 by_cases k : hCode b = 0
 case neg =>
   have er : hRes b = [.int .i64 0, .bool false, .int .i64 0, .int .i64 (hCode b)] := by unfold hRes; rw [if_neg k]
   have e : oDec b = (oxm0, 0, hCode b) := by unfold oDec; rw [if_neg k]
   have kb : (hCode b == 0) = false := beq_eq_false_iff_ne.2 k
   rw [er] at hh
   unfold byS at hh ⊢
   refine FnP.i Tryz.func129 rfl rfl fun G w => ?_
   repeat apply WK.s
   refine WK.g 100 Tryz.ntmps129 (by kernel_rfl) ?_
   intro A hA Q hQ
   simp
   apply hQ
   clear hQ hA
   repeat apply WK.s
   refine WK.g 200 Tryz.ntmps129 (by kernel_rfl) ?_
   intro A hA Q hQ
   simp
   refine RunQ.call rfl rfl rfl rfl (by rfl) (by simp (maxDischargeDepth := 120)) (hh) (by simp) ?_
   refine RunQ.eval ?_
   simp
   apply hQ
   clear hQ hA
   repeat apply WK.s
   refine WK.g 300 Tryz.ntmps129 (by kernel_rfl) ?_
   intro A hA Q hQ
   simp [kb, bne]
   apply hQ
   clear hQ hA
   refine WK.c2 rfl (fun h => ?_) (fun h => ?_)
   · repeat apply WK.s
     refine WK.g 400 Tryz.ntmps129 (by kernel_rfl) ?_
     intro A hA Q hQ
     simp
     refine RunQ.call rfl rfl rfl rfl (by rfl) (by simp (maxDischargeDepth := 120)) (obad_c (hCode b)) (by simp) ?_
     refine RunQ.eval ?_
     simp
     apply hQ
     clear hQ hA
     refine WK.t Tryz.func129 (by simp (maxDischargeDepth := 120) [Tryz.results129, e, oxm0_enc, oFault, k]) (by simp [e, oxm0_enc, oFault, k])
   · cases h
 have er : hRes b = [.int .i64 (hField b).1, .bool (hMasked b), .int .i64 (bAt b 3 : Nat), .int .i64 0] := by unfold hRes; rw [if_pos k]
 have hk : 4 + bAt b 3 ≤ b.length ∧ bAt b 3 = hWant b := by
   unfold hCode at k
   split at k
   · cases k
   split at k
   · cases k
   split at k
   · cases k
   split at k
   · cases k
   split at k
   · cases k
   · rename_i h1 h2 h3 h4 h5
     simp at h5
     exact ⟨by omega, h5⟩
 have hl3 := bAt_lt b 3
 have hsz := fSize_le (hField b).1
 have hws : fSize (hField b).1 ≤ hWant b := by unfold hWant; split <;> omega
 have hfs := fsize_c (hField b).1
 obtain ⟨s, hs⟩ : ∃ s, s = fSize (hField b).1 := ⟨_, rfl⟩
 rw [← hs] at hfs hsz hws
 have q1 := wget_c (b.drop 4) s hsz (by rw [List.length_drop]; omega)
 have q2 := wget_c (b.drop (4 + s)) s hsz (by rw [List.length_drop]; omega)
 have hfo := oform_c (oRead b)
 have hR : oRead b = ⟨(hField b).1, hMasked b, (wGet (b.drop 4) s).1, if hMasked b then (wGet (b.drop (4 + s)) s).1 else wideZ⟩ := by unfold oRead; rw [← hs]
 have d4 : ((byL b).drop 4).take (b.length - 4) = byL (b.drop 4) := by rw [byL_drop]; exact by_full _ _ (by rw [List.length_drop])
 have d5 : ((byL b).drop (4 + s)).take (b.length - (4 + s)) = byL (b.drop (4 + s)) := by rw [byL_drop]; exact by_full _ _ (by rw [List.length_drop])
 have j4 : (4 : Int) ≤ b.length := by omega
 have j5 : 4 + (s : Int) ≤ b.length := by omega
 have j6 : (4 + (s : Int)).toNat = 4 + s := by omega
 have j7 : (0 : Int) ≤ 4 + (s : Int) := by omega
 have w5 : IntKind.i64.wrap (4 + (s : Int)) = 4 + (s : Int) := wrap_i64 (by omega) (by omega)
 rw [er] at hh
 unfold byS at hh q1 q2 ⊢
 rw [List.length_drop] at q1 q2
 obtain ⟨v1, hv1⟩ : ∃ v1, v1 = wGet (b.drop 4) s := ⟨_, rfl⟩
 obtain ⟨v2, hv2⟩ : ∃ v2, v2 = wGet (b.drop (4 + s)) s := ⟨_, rfl⟩
 rw [← hv1] at q1 hR
 rw [← hv2] at q2 hR
 refine FnP.i Tryz.func129 rfl rfl fun G w => ?_
 repeat apply WK.s
 refine WK.g 100 Tryz.ntmps129 (by kernel_rfl) ?_
 intro A hA Q hQ
 simp
 apply hQ
 clear hQ hA
 repeat apply WK.s
 refine WK.g 200 Tryz.ntmps129 (by kernel_rfl) ?_
 intro A hA Q hQ
 simp
 refine RunQ.call rfl rfl rfl rfl (by rfl) (by simp (maxDischargeDepth := 120)) (hh) (by simp) ?_
 refine RunQ.eval ?_
 simp
 apply hQ
 clear hQ hA
 repeat apply WK.s
 refine WK.g 300 Tryz.ntmps129 (by kernel_rfl) ?_
 intro A hA Q hQ
 simp
 apply hQ
 clear hQ hA
 refine WK.c2 rfl (fun h => ?_) (fun h => ?_)
 · cases h
 repeat (first | apply WK.s | apply WK.k)
 refine WK.g 400 Tryz.ntmps129 (by kernel_rfl) ?_
 intro A hA Q hQ
 simp
 apply hQ
 clear hQ hA
 repeat apply WK.s
 refine WK.g 500 Tryz.ntmps129 (by kernel_rfl) ?_
 intro A hA Q hQ
 simp
 refine RunQ.call rfl rfl rfl rfl (by rfl) (by simp (maxDischargeDepth := 120)) (hfs) (by simp) ?_
 refine RunQ.eval ?_
 simp
 apply hQ
 clear hQ hA
 repeat apply WK.s
 refine WK.g 600 Tryz.ntmps129 (by kernel_rfl) ?_
 intro A hA Q hQ
 simp [j4, d4]
 refine RunQ.call rfl rfl rfl rfl (by rfl) (by simp (maxDischargeDepth := 120)) (q1) (by simp) ?_
 refine RunQ.eval ?_
 simp
 apply hQ
 clear hQ hA
 repeat apply WK.s
 apply WK.cut (⟨(upd (upd (upd (upd J 2 (.ptr 0 0)) 4 (.ptr 2 0)) 7 (.int .i64 (bAt b 3 : Nat))) 9 (.ptr 303 0)), (upd (upd (upd B0 0 (.var oxm0.enc)) 2 (.var [.bool false, .int .i64 0, .int .i64 0])) 303 (.var (oRead b).enc)), 0⟩ : St)
 · intro hcut
   rw [hR] at hcut
   cases m : hMasked b
   · rw [m] at hcut
     refine WK.g 700 Tryz.ntmps129 (by kernel_rfl) ?_
     intro A hA Q hQ
     simp
     apply hQ
     clear hQ hA
     refine WK.c2 rfl (fun h => ?_) (fun h => ?_)
     · cases h
     · repeat (first | apply WK.s | apply WK.k)
       refine WK.next (fun n => n) hcut (by repeat (first | exact TmW.nil | refine TmW.upd ?_ (by simp (maxDischargeDepth := 120) [m, oxm0, Oxm.enc, Wide.enc, wideZ, uZ_]))) (by repeat (first | exact BxW.nil | refine BxW.upd ?_ (by simp (maxDischargeDepth := 120) [m, oxm0, Oxm.enc, Wide.enc, wideZ, uZ_]))) InjW.id
   · rw [m] at hcut
     refine WK.g 800 Tryz.ntmps129 (by kernel_rfl) ?_
     intro A hA Q hQ
     simp
     apply hQ
     clear hQ hA
     refine WK.c2 rfl (fun h => ?_) (fun h => ?_)
     · refine WK.g 900 Tryz.ntmps129 (by kernel_rfl) ?_
       intro A hA Q hQ
       simp [w5, j5, j6, j7, d5]
       refine RunQ.call rfl rfl rfl rfl (by rfl) (by simp (maxDischargeDepth := 120)) (q2) (by simp) ?_
       refine RunQ.eval ?_
       simp
       apply hQ
       clear hQ hA
       repeat apply WK.s
       refine WK.next (fun n => n) hcut (by repeat (first | exact TmW.nil | refine TmW.upd ?_ (by simp (maxDischargeDepth := 120) [m, oxm0, Oxm.enc, Wide.enc, wideZ, uZ_]))) (by repeat (first | exact BxW.nil | refine BxW.upd ?_ (by simp (maxDischargeDepth := 120) [m, oxm0, Oxm.enc, Wide.enc, wideZ, uZ_]))) InjW.id
     · cases h
 refine WK.ghost (Ghost.frzVar 9 rfl rfl) ?_
 have w6 : IntKind.i64.wrap (4 + (bAt b 3 : Int)) = 4 + (bAt b 3 : Int) := wrap_i64 (by omega) (by omega)
 simp only [Oxm.enc] at hfo
 by_cases c : Oxm.form (oRead b) = 0
 · have e : oDec b = (oRead b, 4 + (bAt b 3 : Int), 0) := by unfold oDec; rw [if_pos k, if_pos c]
   rw [c] at hfo
   refine WK.g 1000 Tryz.ntmps129 (by kernel_rfl) ?_
   intro A hA Q hQ
   simp [Oxm.enc]
   refine RunQ.call rfl rfl rfl rfl (by rfl) (by simp (maxDischargeDepth := 120)) (hfo) (by simp) ?_
   refine RunQ.eval ?_
   simp
   apply hQ
   clear hQ hA
   repeat apply WK.s
   refine WK.g 1100 Tryz.ntmps129 (by kernel_rfl) ?_
   intro A hA Q hQ
   simp
   apply hQ
   clear hQ hA
   refine WK.c2 rfl (fun h => ?_) (fun h => ?_)
   · cases h
   · repeat (first | apply WK.s | apply WK.k)
     refine WK.g 1200 Tryz.ntmps129 (by kernel_rfl) ?_
     intro A hA Q hQ
     simp [w6, Oxm.enc, oxm0_enc]
     apply hQ
     clear hQ hA
     refine WK.t Tryz.func129 (by simp (maxDischargeDepth := 120) [Tryz.results129, e, oFault, Oxm.enc]) (by simp [e, oFault, Oxm.enc])
 · have e : oDec b = (oxm0, 0, Oxm.form (oRead b)) := by unfold oDec; rw [if_pos k, if_neg c]
   have cb : (Oxm.form (oRead b) == 0) = false := beq_eq_false_iff_ne.2 c
   refine WK.g 1300 Tryz.ntmps129 (by kernel_rfl) ?_
   intro A hA Q hQ
   simp [Oxm.enc]
   refine RunQ.call rfl rfl rfl rfl (by rfl) (by simp (maxDischargeDepth := 120)) (hfo) (by simp) ?_
   refine RunQ.eval ?_
   simp
   apply hQ
   clear hQ hA
   repeat apply WK.s
   refine WK.g 1400 Tryz.ntmps129 (by kernel_rfl) ?_
   intro A hA Q hQ
   simp [cb, bne]
   apply hQ
   clear hQ hA
   refine WK.c2 rfl (fun h => ?_) (fun h => ?_)
   · repeat apply WK.s
     refine WK.g 1500 Tryz.ntmps129 (by kernel_rfl) ?_
     intro A hA Q hQ
     simp [Oxm.enc, oxm0_enc]
     refine RunQ.call rfl rfl rfl rfl (by rfl) (by simp (maxDischargeDepth := 120)) (obad_c (Oxm.form (oRead b))) (by simp) ?_
     refine RunQ.eval ?_
     simp
     apply hQ
     clear hQ hA
     refine WK.t Tryz.func129 (by simp (maxDischargeDepth := 120) [Tryz.results129, e, oFault, c, oxm0_enc]) (by simp [e, oFault, c, oxm0_enc])
   · cases h
end Go.Proofs.YtcccfbjkcahgfaaGreat

namespace Go.Proofs.YtcccfbjkcahgfaaGreat
open Go Go.AI Go.Proofs
attribute [local irreducible] FnP FnO FnB FnT FnSeq WK RunQ RunQW RunX RunXW
theorem u8_quo : ∀ x : BitVec 8, IntKind.u8.wrap ((bI x).tdiv 2) = ((x.toNat / 2 : Nat) : Int) := by
 intro x
 have h : ∀ n : Fin 256, IntKind.u8.wrap (((n.val : Int)).tdiv 2) = ((n.val / 2 : Nat) : Int) := by decide +kernel
 exact h ⟨x.toNat, x.isLt⟩
theorem u8_rem : ∀ x : BitVec 8, IntKind.u8.wrap ((bI x).tmod 2) = ((x.toNat % 2 : Nat) : Int) := by
 intro x
 have h : ∀ n : Fin 256, IntKind.u8.wrap (((n.val : Int)).tmod 2) = ((n.val % 2 : Nat) : Int) := by decide +kernel
 exact h ⟨x.toNat, x.isLt⟩
theorem hCode_short {b : List (BitVec 8)} (h : b.length < 4 ∨ b.length < 4 + bAt b 3) : hCode b = 1 := by
 unfold hCode
 by_cases h4 : b.length < 4
 · rw [if_pos h4]
 · rw [if_neg h4, if_pos (by omega)]
def hIdx (b : List (BitVec 8)) : Int := ((bAt b 2 / 2 : Nat) : Int)
set_option maxHeartbeats 4000000 in
theorem rodec_c (b : List (BitVec 8)) (hb0 : b.length ≤ 9223372036854775807) : FnP Tryz.prog 112 [byS b] (.tup [.agg (oDec b).1.enc, .int .i64 (oDec b).2.1, .agg (oFault (oDec b).2.2)]) := by
 unfold byS
 by_cases h4 : b.length < 4
 · have c := hCode_short (.inl h4)
   have e : oDec b = (oxm0, 0, 1) := by unfold oDec; rw [c]; rfl
   have j4 : (b.length : Int) < 4 := by omega
   refine FnP.i Tryz.func112 rfl rfl fun G w => ?_
   repeat' (first | apply WK.s | refine WK.cT rfl ?_ | (refine hQ.h _ _ ?_; clear hQ hA) | (refine WK.rH Tryz.ntmps112 (by kernel_rfl) ?_; intro A hA Q hQ; simp [*]) | (refine RunQ.g rfl (by rw [hA.h]; rfl) ?_; simp [*]) | (refine RunQ.k rfl rfl rfl rfl rfl ?_ (robad_c 1) ?_ ?_ <;> simp (maxDischargeDepth := 120) [*] <;> refine ⟨?_⟩) | (refine WK.t Tryz.func112 ?_ ?_ <;> simp (maxDischargeDepth := 120) [Tryz.results112, oxm0_enc, oFault, *]))
 have l3 := bAt_lt b 3
 have i3 : 3 < b.length := by omega
 have j3 : (3 : Int) < b.length := by omega
 have g3 := by_get b 3 i3
 have m3 : IntKind.i64.wrap (bI (nth b 3)) = (bAt b 3 : Int) := by rw [bI_nat]; exact wrap_i64 (by omega) (by omega)
 have w1 : IntKind.i64.wrap ((b.length : Int) - 4) = (b.length : Int) - 4 := wrap_i64 (by omega) (by omega)
 have j4 : ¬ (b.length : Int) < 4 := by omega
 by_cases h5 : b.length < 4 + bAt b 3
 · have c := hCode_short (.inr h5)
   have e : oDec b = (oxm0, 0, 1) := by unfold oDec; rw [c]; rfl
   have d : (b.length : Int) - 4 < bAt b 3 := by omega
   refine FnP.i Tryz.func112 rfl rfl fun G w => ?_
   repeat' (first | apply WK.s | refine WK.cT rfl ?_ | (refine hQ.h _ _ ?_; clear hQ hA) | (refine WK.rH Tryz.ntmps112 (by kernel_rfl) ?_; intro A hA Q hQ; simp [*]) | (refine RunQ.g rfl (by rw [hA.h]; rfl) ?_; simp [*]) | (refine RunQ.k rfl rfl rfl rfl rfl ?_ (robad_c 1) ?_ ?_ <;> simp (maxDischargeDepth := 120) [*] <;> refine ⟨?_⟩) | (refine WK.t Tryz.func112 ?_ ?_ <;> simp (maxDischargeDepth := 120) [Tryz.results112, oxm0_enc, oFault, *]))
 have d : ¬ (b.length : Int) - 4 < bAt b 3 := by omega
 have i0 : 0 < b.length := by omega
 have i1 : 1 < b.length := by omega
 have i2 : 2 < b.length := by omega
 have j0 : (0 : Int) < b.length := by omega
 have j1 : (1 : Int) < b.length := by omega
 have j2 : (2 : Int) < b.length := by omega
 have g0 := by_get b 0 i0
 have g1 := by_get b 1 i1
 have g2 := by_get b 2 i2
 have l2 := bAt_lt b 2
 have m2 : IntKind.u8.wrap ((bI (nth b 2)).tdiv 2) = hIdx b := u8_quo (nth b 2)
 have m4 : IntKind.i64.wrap (hIdx b) = hIdx b := by unfold hIdx; exact wrap_i64 (by omega) (by omega)
 have hfi : FnP Tryz.prog 143 [.int .i64 (hIdx b)] (.tup [.int .i64 (hField b).1, .bool (hField b).2]) := rfindex_c (hIdx b)
 have z0 : (bI (nth b 0) == 128) = (bAt b 0 == 128) := by rw [bI_nat, Bool.eq_iff_iff, beq_iff_eq, beq_iff_eq]; omega
 have z1 : (bI (nth b 1) == 0) = (bAt b 1 == 0) := by rw [bI_nat, Bool.eq_iff_iff, beq_iff_eq, beq_iff_eq]; omega
 have m1 : ((bI (nth b 2)).tmod 2 == 1) = hMasked b := by
   have h1 := u8_rem (nth b 2)
   have h2 : (bI (nth b 2)).tmod 2 = (((nth b 2).toNat % 2 : Nat) : Int) := by
     rw [← h1]
     have : (0 : Int) ≤ bI (nth b 2) := (bI_lt _).1
     rw [Int.tmod_eq_emod_of_nonneg this]
     have : 0 ≤ bI (nth b 2) % 2 ∧ bI (nth b 2) % 2 < 2 := by omega
     rw [wrap_u8, bI_of]; omega
   rw [h2]; unfold hMasked bAt; rw [Bool.eq_iff_iff, beq_iff_eq, beq_iff_eq]; omega
 have hsz := fSize_le (hField b).1
 obtain ⟨s, hs⟩ : ∃ s, fSize (hField b).1 = s := ⟨_, rfl⟩
 rw [hs] at hsz
 have hfs := rfsize_c (hField b).1
 rw [hs] at hfs
 have w5 : IntKind.i64.wrap (4 + (s : Int)) = 4 + (s : Int) := wrap_i64 (by omega) (by omega)
 have w6 : IntKind.i64.wrap (2 * (s : Int)) = 2 * (s : Int) := wrap_i64 (by omega) (by omega)
 have w7 : IntKind.i64.wrap (4 + (bAt b 3 : Int)) = 4 + (bAt b 3 : Int) := wrap_i64 (by omega) (by omega)
 have z3 : ((bAt b 3 : Int) == (s : Int)) = (bAt b 3 == s) := by rw [Bool.eq_iff_iff, beq_iff_eq, beq_iff_eq]; omega
 have z4 : ((bAt b 3 : Int) == 2 * (s : Int)) = (bAt b 3 == 2 * s) := by rw [Bool.eq_iff_iff, beq_iff_eq, beq_iff_eq]; omega
 have j4 : (4 : Int) ≤ b.length := by omega
 have d4 : ((byL b).drop 4).take (b.length - 4) = byL (b.drop 4) := by rw [byL_drop]; exact by_full _ _ (by rw [List.length_drop])
 obtain ⟨v1, hv1⟩ : ∃ v1, (wGet (b.drop 4) s) = v1 := ⟨_, rfl⟩
 obtain ⟨v2, hv2⟩ : ∃ v2, (wGet (b.drop (4 + s)) s) = v2 := ⟨_, rfl⟩
 have q1 := rwget_c (b.drop 4) s hsz (by rw [List.length_drop]; omega)
 have q2 := rwget_c (b.drop (4 + s)) s hsz (by rw [List.length_drop]; omega)
 rw [hv1] at q1
 rw [hv2] at q2
 unfold byS at q1 q2
 rw [List.length_drop] at q1 q2
 have hbits := (fRow_ok (hField b).1).2
 have hlow := rlow2_c (fBits (hField b).1) (by unfold fBits; omega)
 obtain ⟨A0, hA0⟩ : ∃ A0, lowW (fBits (hField b).1) = A0 := ⟨_, rfl⟩
 rw [hA0] at hlow
 have hR : oRead b = ⟨(hField b).1, hMasked b, v1.1, if hMasked b then v2.1 else wideZ⟩ := by unfold oRead; rw [hs, hv1, hv2]
 have hw1 : hMasked b = false → hWant b = s := fun h => by unfold hWant; rw [h, hs]; rfl
 have hw2 : hMasked b = true → hWant b = 2 * s := fun h => by unfold hWant; rw [h, hs]; exact Nat.mul_comm _ _
 refine FnP.i Tryz.func112 rfl rfl fun G w => ?_
 cases hm : hMasked b
 · have hw := hw1 hm
   cases hk : bAt b 3 == s
   · repeat' (first | apply WK.s | apply WK.k | refine WK.cT rfl ?_ | refine WK.cF rfl ?_ | (refine hQ.h _ _ ?_; clear hQ hA) | (refine WK.c2 rfl (fun h => ?_) (fun h => ?_) <;> (first | (simp [*] at h; done) | (have h2 := h; simp at h2; exfalso; omega) | (have h2 := h; simp at h2; try simp only [Bool.not_eq_true', Bool.not_eq_false'] at h) | skip)) | (refine Fork.mk (fun h => ?_) (fun h => ?_) <;> (first | (simp [*] at h; done) | (have h2 := h; simp at h2; exfalso; omega) | (have h2 := h; simp at h2; try simp only [Bool.not_eq_true', Bool.not_eq_false'] at h) | skip)) | (refine WK.rH Tryz.ntmps112 (by kernel_rfl) ?_; intro A hA Q hQ; simp [bne, Wide.enc, *]) | (refine RunQ.g rfl (by rw [hA.h]; rfl) ?_; simp [bne, Wide.enc, *]) | (refine RunQ.k rfl rfl rfl rfl rfl ?_ (hfi) ?_ ?_ <;> simp (maxDischargeDepth := 120) [bne, Wide.enc, *] <;> refine ⟨?_⟩) | (refine RunQ.k rfl rfl rfl rfl rfl ?_ (robad_c 6) ?_ ?_ <;> simp (maxDischargeDepth := 120) [bne, Wide.enc, *] <;> refine ⟨?_⟩) | (refine RunQ.k rfl rfl rfl rfl rfl ?_ (robad_c 1) ?_ ?_ <;> simp (maxDischargeDepth := 120) [bne, Wide.enc, *] <;> refine ⟨?_⟩) | (refine RunQ.k rfl rfl rfl rfl rfl ?_ (robad_c 8) ?_ ?_ <;> simp (maxDischargeDepth := 120) [bne, Wide.enc, *] <;> refine ⟨?_⟩) | (refine RunQ.k rfl rfl rfl rfl rfl ?_ (hfs) ?_ ?_ <;> simp (maxDischargeDepth := 120) [bne, Wide.enc, *] <;> refine ⟨?_⟩) | (refine WK.t Tryz.func112 ?_ ?_ <;> simp (maxDischargeDepth := 120) [Tryz.results112, bne, Wide.enc, oxm0_enc, oFault, oDec, hCode, *]))
   have hk2 : (bAt b 3 == hWant b) = true := by rw [hw, hk]
   rw [hm] at hR
   repeat' (first | apply WK.s | apply WK.b | apply WK.n | apply WK.k | refine WK.cT rfl ?_ | refine WK.cF rfl ?_ | (refine hQ.h _ _ ?_; clear hQ hA) | (refine WK.c2 rfl (fun h => ?_) (fun h => ?_) <;> (first | (simp [*] at h; done) | (have h2 := h; simp at h2; exfalso; omega) | (have h2 := h; simp at h2; try simp only [Bool.not_eq_true', Bool.not_eq_false'] at h) | skip)) | (refine Fork.mk (fun h => ?_) (fun h => ?_) <;> (first | (simp [*] at h; done) | (have h2 := h; simp at h2; exfalso; omega) | (have h2 := h; simp at h2; try simp only [Bool.not_eq_true', Bool.not_eq_false'] at h) | skip)) | (refine WK.rH Tryz.ntmps112 (by kernel_rfl) ?_; intro A hA Q hQ; simp [bne, Wide.enc, *]) | (refine WK.rX (by kernel_rfl) Tryz.ntmps112 (by kernel_rfl) ?_; intro A hA Q hQ; simp [bne, Wide.enc, *]) | (refine hQ.h _ _ _ (by decide +kernel) ?_; clear hQ hA) | (refine RunQ.g rfl (by rw [hA.h]; rfl) ?_; simp [bne, Wide.enc, *]) | (refine RunQ.k rfl rfl rfl rfl rfl ?_ (hfi) ?_ ?_ <;> simp (maxDischargeDepth := 120) [bne, Wide.enc, *] <;> refine ⟨?_⟩) | (refine RunQ.k rfl rfl rfl rfl rfl ?_ (robad_c 6) ?_ ?_ <;> simp (maxDischargeDepth := 120) [bne, Wide.enc, *] <;> refine ⟨?_⟩) | (refine RunQ.k rfl rfl rfl rfl rfl ?_ (robad_c 1) ?_ ?_ <;> simp (maxDischargeDepth := 120) [bne, Wide.enc, *] <;> refine ⟨?_⟩) | (refine RunQ.k rfl rfl rfl rfl rfl ?_ (robad_c 8) ?_ ?_ <;> simp (maxDischargeDepth := 120) [bne, Wide.enc, *] <;> refine ⟨?_⟩) | (refine RunQ.k rfl rfl rfl rfl rfl ?_ (hfs) ?_ ?_ <;> simp (maxDischargeDepth := 120) [bne, Wide.enc, *] <;> refine ⟨?_⟩) | (refine RunQ.k rfl rfl rfl rfl rfl ?_ (q1) ?_ ?_ <;> simp (maxDischargeDepth := 120) [bne, Wide.enc, *] <;> refine ⟨?_⟩) | (refine RunQ.k rfl rfl rfl rfl rfl ?_ (hlow) ?_ ?_ <;> simp (maxDischargeDepth := 120) [bne, Wide.enc, *] <;> refine ⟨?_⟩) | (refine RunQ.k rfl rfl rfl rfl rfl ?_ (rfbits_c (hField b).1) ?_ ?_ <;> simp (maxDischargeDepth := 120) [bne, Wide.enc, *] <;> refine ⟨?_⟩) | (refine RunQ.k rfl rfl rfl rfl rfl ?_ (rless_c v1.1 A0) ?_ ?_ <;> simp (maxDischargeDepth := 120) [bne, Wide.enc, *] <;> refine ⟨?_⟩) | (refine RunQ.k rfl rfl rfl rfl rfl ?_ (rzero_c (v1.1.less A0)) ?_ ?_ <;> simp (maxDischargeDepth := 120) [bne, Wide.enc, *] <;> refine ⟨?_⟩) | (refine RunQ.k rfl rfl rfl rfl rfl ?_ (robad_c 7) ?_ ?_ <;> simp (maxDischargeDepth := 120) [bne, Wide.enc, *] <;> refine ⟨?_⟩) | (refine WK.t Tryz.func112 ?_ ?_ <;> simp (maxDischargeDepth := 120) [Tryz.results112, bne, Wide.enc, oxm0_enc, oFault, oDec, hCode, Oxm.form, Oxm.beyond, Oxm.enc, oxm0, wideZ, uZ_, *]))
 cases hk : bAt b 3 == 2 * s
 · have hw := hw2 hm
   repeat' (first | apply WK.s | apply WK.k | refine WK.cT rfl ?_ | refine WK.cF rfl ?_ | (refine hQ.h _ _ ?_; clear hQ hA) | (refine WK.c2 rfl (fun h => ?_) (fun h => ?_) <;> (first | (simp [*] at h; done) | (have h2 := h; simp at h2; exfalso; omega) | (have h2 := h; simp at h2; try simp only [Bool.not_eq_true', Bool.not_eq_false'] at h) | skip)) | (refine Fork.mk (fun h => ?_) (fun h => ?_) <;> (first | (simp [*] at h; done) | (have h2 := h; simp at h2; exfalso; omega) | (have h2 := h; simp at h2; try simp only [Bool.not_eq_true', Bool.not_eq_false'] at h) | skip)) | (refine WK.rH Tryz.ntmps112 (by kernel_rfl) ?_; intro A hA Q hQ; simp [bne, Wide.enc, *]) | (refine RunQ.g rfl (by rw [hA.h]; rfl) ?_; simp [bne, Wide.enc, *]) | (refine RunQ.k rfl rfl rfl rfl rfl ?_ (hfi) ?_ ?_ <;> simp (maxDischargeDepth := 120) [bne, Wide.enc, *] <;> refine ⟨?_⟩) | (refine RunQ.k rfl rfl rfl rfl rfl ?_ (robad_c 6) ?_ ?_ <;> simp (maxDischargeDepth := 120) [bne, Wide.enc, *] <;> refine ⟨?_⟩) | (refine RunQ.k rfl rfl rfl rfl rfl ?_ (robad_c 1) ?_ ?_ <;> simp (maxDischargeDepth := 120) [bne, Wide.enc, *] <;> refine ⟨?_⟩) | (refine RunQ.k rfl rfl rfl rfl rfl ?_ (robad_c 8) ?_ ?_ <;> simp (maxDischargeDepth := 120) [bne, Wide.enc, *] <;> refine ⟨?_⟩) | (refine RunQ.k rfl rfl rfl rfl rfl ?_ (hfs) ?_ ?_ <;> simp (maxDischargeDepth := 120) [bne, Wide.enc, *] <;> refine ⟨?_⟩) | (refine RunQW.k rfl rfl rfl rfl ?_ (rfmasks_c (hField b).1) ?_ ?_ <;> simp (maxDischargeDepth := 120) [bne, Wide.enc, *] <;> refine ⟨?_⟩) | (refine WK.t Tryz.func112 ?_ ?_ <;> simp (maxDischargeDepth := 120) [Tryz.results112, bne, Wide.enc, oxm0_enc, oFault, oDec, hCode, *]))
 · have hw := hw2 hm
   have hk2 : (bAt b 3 == hWant b) = true := by rw [hw, hk]
   have j5 : 4 + (s : Int) ≤ b.length := by rw [beq_iff_eq] at hk; omega
   have j6 : (4 + (s : Int)).toNat = 4 + s := by omega
   have j7 : (0 : Int) ≤ 4 + (s : Int) := by omega
   have d5 : ((byL b).drop (4 + s)).take (b.length - (4 + s)) = byL (b.drop (4 + s)) := by rw [byL_drop]; exact by_full _ _ (by rw [List.length_drop])
   rw [hm] at hR
   repeat' (first | apply WK.s | apply WK.b | apply WK.n | apply WK.k | refine WK.cT rfl ?_ | refine WK.cF rfl ?_ | (refine hQ.h _ _ ?_; clear hQ hA) | (refine WK.c2 rfl (fun h => ?_) (fun h => ?_) <;> (first | (simp [*] at h; done) | (have h2 := h; simp at h2; exfalso; omega) | (have h2 := h; simp at h2; try simp only [Bool.not_eq_true', Bool.not_eq_false'] at h) | skip)) | (refine Fork.mk (fun h => ?_) (fun h => ?_) <;> (first | (simp [*] at h; done) | (have h2 := h; simp at h2; exfalso; omega) | (have h2 := h; simp at h2; try simp only [Bool.not_eq_true', Bool.not_eq_false'] at h) | skip)) | (refine WK.rH Tryz.ntmps112 (by kernel_rfl) ?_; intro A hA Q hQ; simp [bne, Wide.enc, *]) | (refine WK.rX (by kernel_rfl) Tryz.ntmps112 (by kernel_rfl) ?_; intro A hA Q hQ; simp [bne, Wide.enc, *]) | (refine hQ.h _ _ _ (by decide +kernel) ?_; clear hQ hA) | (refine RunQ.g rfl (by rw [hA.h]; rfl) ?_; simp [bne, Wide.enc, *]) | (refine RunQ.k rfl rfl rfl rfl rfl ?_ (hfi) ?_ ?_ <;> simp (maxDischargeDepth := 120) [bne, Wide.enc, *] <;> refine ⟨?_⟩) | (refine RunQ.k rfl rfl rfl rfl rfl ?_ (robad_c 6) ?_ ?_ <;> simp (maxDischargeDepth := 120) [bne, Wide.enc, *] <;> refine ⟨?_⟩) | (refine RunQ.k rfl rfl rfl rfl rfl ?_ (robad_c 1) ?_ ?_ <;> simp (maxDischargeDepth := 120) [bne, Wide.enc, *] <;> refine ⟨?_⟩) | (refine RunQ.k rfl rfl rfl rfl rfl ?_ (robad_c 8) ?_ ?_ <;> simp (maxDischargeDepth := 120) [bne, Wide.enc, *] <;> refine ⟨?_⟩) | (refine RunQ.k rfl rfl rfl rfl rfl ?_ (hfs) ?_ ?_ <;> simp (maxDischargeDepth := 120) [bne, Wide.enc, *] <;> refine ⟨?_⟩) | (refine RunQ.k rfl rfl rfl rfl rfl ?_ (q1) ?_ ?_ <;> simp (maxDischargeDepth := 120) [bne, Wide.enc, *] <;> refine ⟨?_⟩) | (refine RunQ.k rfl rfl rfl rfl rfl ?_ (q2) ?_ ?_ <;> simp (maxDischargeDepth := 120) [bne, Wide.enc, *] <;> refine ⟨?_⟩) | (refine RunQ.k rfl rfl rfl rfl rfl ?_ (hlow) ?_ ?_ <;> simp (maxDischargeDepth := 120) [bne, Wide.enc, *] <;> refine ⟨?_⟩) | (refine RunQ.k rfl rfl rfl rfl rfl ?_ (rfbits_c (hField b).1) ?_ ?_ <;> simp (maxDischargeDepth := 120) [bne, Wide.enc, *] <;> refine ⟨?_⟩) | (refine RunQ.k rfl rfl rfl rfl rfl ?_ (rless_c v1.1 A0) ?_ ?_ <;> simp (maxDischargeDepth := 120) [bne, Wide.enc, *] <;> refine ⟨?_⟩) | (refine RunQ.k rfl rfl rfl rfl rfl ?_ (rzero_c (v1.1.less A0)) ?_ ?_ <;> simp (maxDischargeDepth := 120) [bne, Wide.enc, *] <;> refine ⟨?_⟩) | (refine RunQ.k rfl rfl rfl rfl rfl ?_ (robad_c 7) ?_ ?_ <;> simp (maxDischargeDepth := 120) [bne, Wide.enc, *] <;> refine ⟨?_⟩) | (refine RunQ.k rfl rfl rfl rfl rfl ?_ (rless_c v2.1 A0) ?_ ?_ <;> simp (maxDischargeDepth := 120) [bne, Wide.enc, *] <;> refine ⟨?_⟩) | (refine RunQ.k rfl rfl rfl rfl rfl ?_ (rzero_c (v2.1.less A0)) ?_ ?_ <;> simp (maxDischargeDepth := 120) [bne, Wide.enc, *] <;> refine ⟨?_⟩) | (refine RunQ.k rfl rfl rfl rfl rfl ?_ (robad_c 5) ?_ ?_ <;> simp (maxDischargeDepth := 120) [bne, Wide.enc, *] <;> refine ⟨?_⟩) | (refine RunQW.k rfl rfl rfl rfl ?_ (rfmasks_c (hField b).1) ?_ ?_ <;> simp (maxDischargeDepth := 120) [bne, Wide.enc, *] <;> refine ⟨?_⟩) | (refine RunQW.k rfl rfl rfl rfl ?_ (rless_c v1.1 A0) ?_ ?_ <;> simp (maxDischargeDepth := 120) [bne, Wide.enc, *] <;> refine ⟨?_⟩) | (refine RunQW.k rfl rfl rfl rfl ?_ (rzero_c (v1.1.less A0)) ?_ ?_ <;> simp (maxDischargeDepth := 120) [bne, Wide.enc, *] <;> refine ⟨?_⟩) | (refine RunQW.k rfl rfl rfl rfl ?_ (rzero_c v2.1) ?_ ?_ <;> simp (maxDischargeDepth := 120) [bne, Wide.enc, *] <;> refine ⟨?_⟩) | (refine RunQW.k rfl rfl rfl rfl ?_ (rless_c v2.1 A0) ?_ ?_ <;> simp (maxDischargeDepth := 120) [bne, Wide.enc, *] <;> refine ⟨?_⟩) | (refine RunQW.k rfl rfl rfl rfl ?_ (rzero_c (v2.1.less A0)) ?_ ?_ <;> simp (maxDischargeDepth := 120) [bne, Wide.enc, *] <;> refine ⟨?_⟩) | (refine RunQW.k rfl rfl rfl rfl ?_ (rless_c v1.1 v2.1) ?_ ?_ <;> simp (maxDischargeDepth := 120) [bne, Wide.enc, *] <;> refine ⟨?_⟩) | (refine RunQW.k rfl rfl rfl rfl ?_ (rzero_c (v1.1.less v2.1)) ?_ ?_ <;> simp (maxDischargeDepth := 120) [bne, Wide.enc, *] <;> refine ⟨?_⟩) | (refine WK.t Tryz.func112 ?_ ?_ <;> simp (maxDischargeDepth := 120) [Tryz.results112, bne, Wide.enc, oxm0_enc, oFault, oDec, hCode, Oxm.form, Oxm.beyond, Oxm.enc, oxm0, wideZ, uZ_, *]))

def act0 : Action := ⟨0, 0, 0, 0, 0, oxm0⟩
def aSets (f : Int) : Bool := fRight f && (f != 0 && f != 1)
def aGoes (p : Int) : Bool := (decide (0 < p) && decide (p ≤ 4294967040)) || p == 4294967293
def aMost (a : Action) : Bool := decide (0 ≤ a.max) && (decide (a.max ≤ 65535) && (a.max == 0 || a.port == 4294967293))
def Action.bare (a : Action) : Action := if a.kind = 0 then ⟨0, a.port, a.max, 0, 0, oxm0⟩ else if a.kind = 22 then ⟨22, 0, 0, a.group, 0, oxm0⟩ else if a.kind = 17 then ⟨17, 0, 0, 0, a.ether, oxm0⟩
 else if a.kind = 25 then ⟨25, 0, 0, 0, 0, a.oxm⟩ else ⟨a.kind, 0, 0, 0, 0, oxm0⟩
def Action.fine (a : Action) : Bool := if a.kind = 0 then aGoes a.port && aMost a else if a.kind = 22 then decide (0 ≤ a.group) && decide (a.group ≤ 4294967040) else if a.kind = 17 then a.ether == 33024 || a.ether == 34984
 else if a.kind = 18 then true else if a.kind = 25 then Oxm.right a.oxm && (!a.oxm.masked && aSets a.oxm.field) else false
def Action.right (a : Action) : Bool := Action.fine a && a == Action.bare a
theorem asets_c (f : Int) : FnP Tryz.prog 207 [.int .i64 f] (.bool (aSets f)) := by
 refine FnP.i Tryz.func207 rfl rfl fun G w => ?_
 repeat' (first | apply WK.s | (refine hQ.h _ _ ?_; clear hQ hA) | (refine Fork.mk (fun h => ?_) (fun h => ?_) <;> (first | (simp [*] at h; done) | (have h2 := h; simp at h2; exfalso; omega) | (have h2 := h; simp at h2; try simp only [Bool.not_eq_true', Bool.not_eq_false'] at h) | skip)) | (refine WK.rH Tryz.ntmps207 (by kernel_rfl) ?_; intro A hA Q hQ; simp [bne, *]) | (refine RunQ.g rfl (by rw [hA.h]; rfl) ?_; simp [bne, *]) | (refine RunQ.k rfl rfl rfl rfl rfl ?_ (fright_c f) ?_ ?_ <;> simp (maxDischargeDepth := 120) [bne, *] <;> refine ⟨?_⟩) | (refine WK.t Tryz.func207 ?_ ?_ <;> simp (maxDischargeDepth := 120) [Tryz.results207, bne, aSets, *]))
theorem rasets_c (f : Int) : FnP Tryz.prog 180 [.int .i64 f] (.bool (aSets f)) := by
 refine FnP.i Tryz.func180 rfl rfl fun G w => ?_
 repeat' (first | apply WK.s | (refine hQ.h _ _ ?_; clear hQ hA) | (refine Fork.mk (fun h => ?_) (fun h => ?_) <;> (first | (simp [*] at h; done) | (have h2 := h; simp at h2; exfalso; omega) | (have h2 := h; simp at h2; try simp only [Bool.not_eq_true', Bool.not_eq_false'] at h) | skip)) | (refine WK.rH Tryz.ntmps180 (by kernel_rfl) ?_; intro A hA Q hQ; simp [bne, *]) | (refine RunQ.g rfl (by rw [hA.h]; rfl) ?_; simp [bne, *]) | (refine RunQ.k rfl rfl rfl rfl rfl ?_ (rfright_c f) ?_ ?_ <;> simp (maxDischargeDepth := 120) [bne, *] <;> refine ⟨?_⟩) | (refine WK.t Tryz.func180 ?_ ?_ <;> simp (maxDischargeDepth := 120) [Tryz.results180, bne, aSets, *]))
theorem agoes_c (p : Int) : FnP Tryz.prog 209 [.int .i64 p] (.bool (aGoes p)) := by
 refine FnP.i Tryz.func209 rfl rfl fun G w => ?_
 repeat' (first | apply WK.s | (refine hQ.h _ _ ?_; clear hQ hA) | (refine Fork.mk (fun h => ?_) (fun h => ?_) <;> (first | (simp [*] at h; done) | (have h2 := h; simp at h2; exfalso; omega) | (have h2 := h; simp at h2; try simp only [Bool.not_eq_true', Bool.not_eq_false'] at h) | skip)) | (refine WK.rH Tryz.ntmps209 (by kernel_rfl) ?_; intro A hA Q hQ; simp [*]) | (refine RunQ.g rfl (by rw [hA.h]; rfl) ?_; simp [*]) | (refine WK.t Tryz.func209 ?_ ?_ <;> simp (maxDischargeDepth := 120) [Tryz.results209, aGoes, *]))
theorem ragoes_c (p : Int) : FnP Tryz.prog 177 [.int .i64 p] (.bool (aGoes p)) := by
 have e : decide (1 ≤ p) = decide (0 < p) := decide_eq_decide.2 (by omega)
 refine FnP.i Tryz.func177 rfl rfl fun G w => ?_
 repeat' (first | apply WK.s | (refine hQ.h _ _ ?_; clear hQ hA) | (refine Fork.mk (fun h => ?_) (fun h => ?_) <;> (first | (simp [*] at h; done) | (have h2 := h; simp at h2; exfalso; omega) | (have h2 := h; simp at h2; try simp only [Bool.not_eq_true', Bool.not_eq_false'] at h) | skip)) | (refine WK.rH Tryz.ntmps177 (by kernel_rfl) ?_; intro A hA Q hQ; simp [e, *]) | (refine RunQ.g rfl (by rw [hA.h]; rfl) ?_; simp [e, *]) | (refine WK.t Tryz.func177 ?_ ?_ <;> simp (maxDischargeDepth := 120) [Tryz.results177, e, aGoes, *]))
set_option maxHeartbeats 4000000 in
theorem aright_c (a : Action) : FnP Tryz.prog 210 [.agg a.enc] (.bool (Action.right a)) := by
 have ho := oright_c a.oxm
 simp only [Oxm.enc] at ho
 have g : aGoes 4294967293 = true := rfl
 refine FnP.i Tryz.func210 rfl rfl fun G w => ?_
 repeat' (first | apply WK.s | apply WK.b | apply WK.n | apply WK.k | (refine hQ.h _ _ ?_; clear hQ hA) | (refine WK.c2 rfl (fun h => ?_) (fun h => ?_) <;> (first | (simp [*] at h; done) | (have h2 := h; simp at h2; exfalso; omega) | (have h2 := h; simp at h2; try simp only [Bool.not_eq_true', Bool.not_eq_false'] at h) | skip)) | (refine Fork.mk (fun h => ?_) (fun h => ?_) <;> (first | (simp [*] at h; done) | (have h2 := h; simp at h2; exfalso; omega) | (have h2 := h; simp at h2; try simp only [Bool.not_eq_true', Bool.not_eq_false'] at h) | skip)) | (refine WK.rH Tryz.ntmps210 (by kernel_rfl) ?_; intro A hA Q hQ; simp [Action.enc, *]) | (refine WK.rX (by kernel_rfl) Tryz.ntmps210 (by kernel_rfl) ?_; intro A hA Q hQ; simp [Action.enc, *]) | (refine hQ.h _ _ _ (by decide +kernel) ?_; clear hQ hA) | (refine RunQ.g rfl (by rw [hA.h]; rfl) ?_; simp [Action.enc, *]) | (refine RunQ.k rfl rfl rfl rfl rfl ?_ (agoes_c a.port) ?_ ?_ <;> simp (maxDischargeDepth := 120) [Action.enc, *] <;> refine ⟨?_⟩) | (refine RunQ.k rfl rfl rfl rfl rfl ?_ (ho) ?_ ?_ <;> simp (maxDischargeDepth := 120) [Action.enc, *] <;> refine ⟨?_⟩) | (refine RunQW.k rfl rfl rfl rfl ?_ (asets_c a.oxm.field) ?_ ?_ <;> simp (maxDischargeDepth := 120) [Action.enc, *] <;> refine ⟨?_⟩) | (refine WK.t Tryz.func210 ?_ ?_ <;> simp (maxDischargeDepth := 120) [Tryz.results210, Action.enc, Action.right, Action.fine, aMost, Action.bare, Action.beq, Oxm.beq, oxm0, wideZ, *]))
set_option maxHeartbeats 4000000 in
theorem ramost_c (a : Action) : FnP Tryz.prog 179 [.agg a.enc] (.bool (a.max == 0 || (a.port == 4294967293 && (decide (0 < a.max) && decide (a.max ≤ 65535))))) := by
 refine FnP.i Tryz.func179 rfl rfl fun G w => ?_
 repeat' (first | apply WK.s | (refine hQ.h _ _ ?_; clear hQ hA) | (refine Fork.mk (fun h => ?_) (fun h => ?_) <;> (first | (simp [*] at h; done) | (have h2 := h; simp at h2; exfalso; omega) | (have h2 := h; simp at h2; try simp only [Bool.not_eq_true', Bool.not_eq_false'] at h) | skip)) | (refine WK.rH Tryz.ntmps179 (by kernel_rfl) ?_; intro A hA Q hQ; simp [Action.enc, *]) | (refine RunQ.g rfl (by rw [hA.h]; rfl) ?_; simp [Action.enc, *]) | (refine WK.t Tryz.func179 ?_ ?_ <;> simp (maxDischargeDepth := 120) [Tryz.results179, Action.enc, *]))
theorem ramost_eq (a : Action) : (a.max == 0 || (a.port == 4294967293 && (decide (0 < a.max) && decide (a.max ≤ 65535)))) = aMost a := by
 unfold aMost
 rw [Bool.eq_iff_iff]; simp only [Bool.or_eq_true, Bool.and_eq_true, beq_iff_eq, decide_eq_true_eq]; omega
set_option maxHeartbeats 4000000 in
theorem raright_c (a : Action) : FnP Tryz.prog 153 [.agg a.enc] (.bool (Action.right a)) := by
 have ho := roright_c a.oxm
 have hm := ramost_c a
 rw [ramost_eq] at hm
 have s0 := rasame_c a ⟨0, a.port, a.max, 0, 0, oxm0⟩
 have s1 := rasame_c a ⟨22, 0, 0, a.group, 0, oxm0⟩
 have s2 := rasame_c a ⟨17, 0, 0, 0, a.ether, oxm0⟩
 have s3 := rasame_c a ⟨18, 0, 0, 0, 0, oxm0⟩
 have s4 := rasame_c a ⟨25, 0, 0, 0, 0, a.oxm⟩
 obtain ⟨k, port, max, group, ether, oxm⟩ := a
 by_cases k0 : k = 0
 · subst k0
   simp only [Action.enc, Oxm.enc, oxm0, wideZ, uZ_] at ho hm s0 s1 s2 s3 s4
   refine FnP.i Tryz.func153 rfl rfl fun G w => ?_
   repeat' (first | apply WK.s | apply WK.b | refine WK.cT rfl ?_ | (refine hQ.h _ _ ?_; clear hQ hA) | (refine Fork.mk (fun h => ?_) (fun h => ?_) <;> (first | (simp [*] at h; done) | (have h2 := h; simp at h2; exfalso; omega) | (have h2 := h; simp at h2; try simp only [Bool.not_eq_true', Bool.not_eq_false'] at h) | skip)) | (refine WK.rH Tryz.ntmps153 (by kernel_rfl) ?_; intro A hA Q hQ; simp [Action.enc, *]) | (refine RunQ.g rfl (by rw [hA.h]; rfl) ?_; simp [Action.enc, *]) | (refine RunQ.k rfl rfl rfl rfl rfl ?_ (ragoes_c port) ?_ ?_ <;> simp (maxDischargeDepth := 120) [Action.enc, *] <;> refine ⟨?_⟩) | (refine RunQW.k rfl rfl rfl rfl ?_ (hm) ?_ ?_ <;> simp (maxDischargeDepth := 120) [Action.enc, *] <;> refine ⟨?_⟩) | (refine RunQW.k rfl rfl rfl rfl ?_ (s0) ?_ ?_ <;> simp (maxDischargeDepth := 120) [Action.enc, *] <;> refine ⟨?_⟩) | (refine WK.t Tryz.func153 ?_ ?_ <;> simp (maxDischargeDepth := 120) [Tryz.results153, Action.enc, Action.right, Action.fine, Action.bare, oxm0, wideZ, *]))
 by_cases k1 : k = 22
 · subst k1
   simp only [Action.enc, Oxm.enc, oxm0, wideZ, uZ_] at ho hm s0 s1 s2 s3 s4
   refine FnP.i Tryz.func153 rfl rfl fun G w => ?_
   repeat' (first | apply WK.s | apply WK.b | refine WK.cT rfl ?_ | refine WK.cF rfl ?_ | (refine hQ.h _ _ ?_; clear hQ hA) | (refine Fork.mk (fun h => ?_) (fun h => ?_) <;> (first | (simp [*] at h; done) | (have h2 := h; simp at h2; exfalso; omega) | (have h2 := h; simp at h2; try simp only [Bool.not_eq_true', Bool.not_eq_false'] at h) | skip)) | (refine WK.rH Tryz.ntmps153 (by kernel_rfl) ?_; intro A hA Q hQ; simp [Action.enc, *]) | (refine RunQ.g rfl (by rw [hA.h]; rfl) ?_; simp [Action.enc, *]) | (refine RunQW.k rfl rfl rfl rfl ?_ (s1) ?_ ?_ <;> simp (maxDischargeDepth := 120) [Action.enc, *] <;> refine ⟨?_⟩) | (refine WK.t Tryz.func153 ?_ ?_ <;> simp (maxDischargeDepth := 120) [Tryz.results153, Action.enc, Action.right, Action.fine, Action.bare, oxm0, wideZ, *]))
 by_cases k2 : k = 17
 · subst k2
   simp only [Action.enc, Oxm.enc, oxm0, wideZ, uZ_] at ho hm s0 s1 s2 s3 s4
   refine FnP.i Tryz.func153 rfl rfl fun G w => ?_
   repeat' (first | apply WK.s | apply WK.b | refine WK.cT rfl ?_ | refine WK.cF rfl ?_ | (refine hQ.h _ _ ?_; clear hQ hA) | (refine Fork.mk (fun h => ?_) (fun h => ?_) <;> (first | (simp [*] at h; done) | (have h2 := h; simp at h2; exfalso; omega) | (have h2 := h; simp at h2; try simp only [Bool.not_eq_true', Bool.not_eq_false'] at h) | skip)) | (refine WK.rH Tryz.ntmps153 (by kernel_rfl) ?_; intro A hA Q hQ; simp [Action.enc, *]) | (refine RunQ.g rfl (by rw [hA.h]; rfl) ?_; simp [Action.enc, *]) | (refine RunQW.k rfl rfl rfl rfl ?_ (s2) ?_ ?_ <;> simp (maxDischargeDepth := 120) [Action.enc, *] <;> refine ⟨?_⟩) | (refine WK.t Tryz.func153 ?_ ?_ <;> simp (maxDischargeDepth := 120) [Tryz.results153, Action.enc, Action.right, Action.fine, Action.bare, oxm0, wideZ, *]))
 by_cases k3 : k = 18
 · subst k3
   simp only [Action.enc, Oxm.enc, oxm0, wideZ, uZ_] at ho hm s0 s1 s2 s3 s4
   refine FnP.i Tryz.func153 rfl rfl fun G w => ?_
   repeat' (first | apply WK.s | apply WK.b | refine WK.cT rfl ?_ | refine WK.cF rfl ?_ | (refine hQ.h _ _ ?_; clear hQ hA) | (refine WK.rH Tryz.ntmps153 (by kernel_rfl) ?_; intro A hA Q hQ; simp [Action.enc, *]) | (refine RunQ.k rfl rfl rfl rfl rfl ?_ (s3) ?_ ?_ <;> simp (maxDischargeDepth := 120) [Action.enc, *] <;> refine ⟨?_⟩) | (refine WK.t Tryz.func153 ?_ ?_ <;> simp (maxDischargeDepth := 120) [Tryz.results153, Action.enc, Action.right, Action.fine, Action.bare, oxm0, wideZ, *]))
 by_cases k4 : k = 25
 · subst k4
   simp only [Action.enc, Oxm.enc, oxm0, wideZ, uZ_] at ho hm s0 s1 s2 s3 s4
   refine FnP.i Tryz.func153 rfl rfl fun G w => ?_
   repeat' (first | apply WK.s | apply WK.b | refine WK.cT rfl ?_ | refine WK.cF rfl ?_ | (refine hQ.h _ _ ?_; clear hQ hA) | (refine Fork.mk (fun h => ?_) (fun h => ?_) <;> (first | (simp [*] at h; done) | (have h2 := h; simp at h2; exfalso; omega) | (have h2 := h; simp at h2; try simp only [Bool.not_eq_true', Bool.not_eq_false'] at h) | skip)) | (refine WK.rH Tryz.ntmps153 (by kernel_rfl) ?_; intro A hA Q hQ; simp [Action.enc, Oxm.enc, *]) | (refine RunQ.g rfl (by rw [hA.h]; rfl) ?_; simp [Action.enc, Oxm.enc, *]) | (refine RunQ.k rfl rfl rfl rfl rfl ?_ (ho) ?_ ?_ <;> simp (maxDischargeDepth := 120) [Action.enc, Oxm.enc, *] <;> refine ⟨?_⟩) | (refine RunQW.k rfl rfl rfl rfl ?_ (rasets_c oxm.field) ?_ ?_ <;> simp (maxDischargeDepth := 120) [Action.enc, Oxm.enc, *] <;> refine ⟨?_⟩) | (refine RunQW.k rfl rfl rfl rfl ?_ (s4) ?_ ?_ <;> simp (maxDischargeDepth := 120) [Action.enc, Oxm.enc, *] <;> refine ⟨?_⟩) | (refine WK.t Tryz.func153 ?_ ?_ <;> simp (maxDischargeDepth := 120) [Tryz.results153, Action.enc, Oxm.enc, Action.right, Action.fine, Action.bare, oxm0, wideZ, *]))
 · refine FnP.i Tryz.func153 rfl rfl fun G w => ?_
   repeat' (first | apply WK.s | apply WK.b | apply WK.n | apply WK.k | (refine hQ.h _ _ ?_; clear hQ hA) | (refine WK.c2 rfl (fun h => ?_) (fun h => ?_) <;> (first | (simp [*] at h; done) | (have h2 := h; simp at h2; exfalso; omega) | (have h2 := h; simp at h2; try simp only [Bool.not_eq_true', Bool.not_eq_false'] at h) | skip)) | (refine WK.rH Tryz.ntmps153 (by kernel_rfl) ?_; intro A hA Q hQ; simp [Action.enc, *]) | (refine WK.t Tryz.func153 ?_ ?_ <;> simp (maxDischargeDepth := 120) [Tryz.results153, Action.enc, Action.right, Action.fine, Action.bare, *]))
end Go.Proofs.YtcccfbjkcahgfaaGreat
