/- Fields: numbers, sizes, masks. -/
import Derived.Test.YtcccfbjkcahgfaaGreatWk2
set_option linter.all false
set_option linter.unnecessarySimpa false
namespace Go.Proofs.YtcccfbjkcahgfaaGreat
open Go Go.AI Go.Proofs
def fID (f : Int) : Int := (fRow f).1
def fMasks (f : Int) : Bool := (fRow f).2.2
def fSize (f : Int) : Nat := ((fBits f).toNat + 7) / 8
theorem fRow_ok (f : Int) : (-1 ≤ (fRow f).1 ∧ (fRow f).1 ≤ 34) ∧ 0 ≤ (fRow f).2.1 ∧ (fRow f).2.1 ≤ 128 := by
 unfold fRow
 split
 · have h : f.toNat < fRows.length := by show f.toNat < 24; omega
   have : ∀ r, r ∈ fRows → (-1 ≤ r.1 ∧ r.1 ≤ 34) ∧ 0 ≤ r.2.1 ∧ r.2.1 ≤ 128 := by decide
   exact this _ (nth_mem h)
 · decide
theorem fSize_le (f : Int) : fSize f ≤ 16 := by
 have := fRow_ok f
 unfold fSize fBits; omega
theorem fid_c (f : Int) : FnP Tryz.prog 241 [.int .i64 f] (.int .i64 (fID f)) := by
 refine FnP.intro Tryz.func241 rfl rfl fun G w => ?_
 repeat (apply WK.seq)
 refine WK.reg 100 Tryz.ntmps241 (by kernel_rfl) ?_
 intro A hA Q hQ
 simp
 refine hQ _ _ ?_
 clear hQ hA
 repeat (apply WK.seq)
 refine WK.reg 200 Tryz.ntmps241 (by kernel_rfl) ?_
 intro A hA Q hQ
 simp
 refine RunQ.call rfl rfl rfl rfl (by rfl) (by simp (maxDischargeDepth := 120) [rowEnc]) (fat_c f) (by simp [rowEnc]) ?_
 refine RunQ.eval ?_
 simp [rowEnc]
 refine hQ _ _ ?_
 clear hQ hA
 refine WK.ret Tryz.func241 (by simp (maxDischargeDepth := 120) [Tryz.results241, fID]) (by simp [fID])
theorem fmasks_c (f : Int) : FnP Tryz.prog 182 [.int .i64 f] (.bool (fMasks f)) := by
 refine FnP.intro Tryz.func182 rfl rfl fun G w => ?_
 repeat (apply WK.seq)
 refine WK.reg 100 Tryz.ntmps182 (by kernel_rfl) ?_
 intro A hA Q hQ
 simp
 refine hQ _ _ ?_
 clear hQ hA
 repeat (apply WK.seq)
 refine WK.reg 200 Tryz.ntmps182 (by kernel_rfl) ?_
 intro A hA Q hQ
 simp
 refine RunQ.call rfl rfl rfl rfl (by rfl) (by simp (maxDischargeDepth := 120) [rowEnc]) (fat_c f) (by simp [rowEnc]) ?_
 refine RunQ.eval ?_
 simp [rowEnc]
 refine hQ _ _ ?_
 clear hQ hA
 refine WK.ret Tryz.func182 (by simp (maxDischargeDepth := 120) [Tryz.results182, fMasks]) (by simp [fMasks])
theorem fsize_c (f : Int) : FnP Tryz.prog 160 [.int .i64 f] (.int .i64 (fSize f)) := by
 have h := (fRow_ok f).2
 have h1 : IntKind.i64.wrap ((fRow f).2.1 + 7) = (fRow f).2.1 + 7 := wrap_i64 (by omega) (by omega)
 have h2 : bShr .i64 ((fRow f).2.1 + 7) 3 = fSize f := by
   have := shr_i64 ((fRow f).2.1 + 7) 3 (by omega)
   rw [show ((3 : Nat) : Int) = 3 from rfl] at this
   rw [this, show (2 : Int) ^ 3 = 8 from rfl]
   unfold fSize fBits; omega
 refine FnP.intro Tryz.func160 rfl rfl fun G w => ?_
 repeat (apply WK.seq)
 refine WK.reg 100 Tryz.ntmps160 (by kernel_rfl) ?_
 intro A hA Q hQ
 simp
 refine hQ _ _ ?_
 clear hQ hA
 repeat (apply WK.seq)
 refine WK.reg 200 Tryz.ntmps160 (by kernel_rfl) ?_
 intro A hA Q hQ
 simp
 refine RunQ.call rfl rfl rfl rfl (by rfl) (by simp (maxDischargeDepth := 120) [rowEnc, h1, h2]) (fat_c f) (by simp [rowEnc, h1, h2]) ?_
 refine RunQ.eval ?_
 simp [rowEnc, h1, h2]
 refine hQ _ _ ?_
 clear hQ hA
 refine WK.ret Tryz.func160 (by simp (maxDischargeDepth := 120) [Tryz.results160]) (by simp)
theorem rfid_c (f : Int) : FnP Tryz.prog 121 [.int .i64 f] (.int .i64 (fID f)) := by
 refine FnP.intro Tryz.func121 rfl rfl fun G w => ?_
 repeat (apply WK.seq)
 refine WK.reg 100 Tryz.ntmps121 (by kernel_rfl) ?_
 intro A hA Q hQ
 simp
 refine hQ _ _ ?_
 clear hQ hA
 repeat (apply WK.seq)
 refine WK.reg 200 Tryz.ntmps121 (by kernel_rfl) ?_
 intro A hA Q hQ
 simp
 refine RunQ.call rfl rfl rfl rfl (by rfl) (by simp (maxDischargeDepth := 120)) (rlow_c f) (by simp) ?_
 refine RunQ.eval ?_
 simp
 refine hQ _ _ ?_
 clear hQ hA
 repeat (apply WK.seq)
 refine WK.reg 300 Tryz.ntmps121 (by kernel_rfl) ?_
 intro A hA Q hQ
 simp
 refine hQ _ _ ?_
 clear hQ hA
 refine WK.ret Tryz.func121 (by simp (maxDischargeDepth := 120) [Tryz.results121, fID]) (by simp [fID])
theorem rfmasks_c (f : Int) : FnP Tryz.prog 144 [.int .i64 f] (.bool (fMasks f)) := by
 refine FnP.intro Tryz.func144 rfl rfl fun G w => ?_
 repeat (apply WK.seq)
 refine WK.reg 100 Tryz.ntmps144 (by kernel_rfl) ?_
 intro A hA Q hQ
 simp
 refine hQ _ _ ?_
 clear hQ hA
 repeat (apply WK.seq)
 refine WK.reg 200 Tryz.ntmps144 (by kernel_rfl) ?_
 intro A hA Q hQ
 simp
 refine RunQ.call rfl rfl rfl rfl (by rfl) (by simp (maxDischargeDepth := 120)) (rlow_c f) (by simp) ?_
 refine RunQ.eval ?_
 simp
 refine hQ _ _ ?_
 clear hQ hA
 repeat (apply WK.seq)
 refine WK.reg 300 Tryz.ntmps144 (by kernel_rfl) ?_
 intro A hA Q hQ
 simp
 refine hQ _ _ ?_
 clear hQ hA
 refine WK.ret Tryz.func144 (by simp (maxDischargeDepth := 120) [Tryz.results144, fMasks]) (by simp [fMasks])
theorem rfsize_c (f : Int) : FnP Tryz.prog 120 [.int .i64 f] (.int .i64 (fSize f)) := by
 have h := (fRow_ok f).2
 have h1 : IntKind.i64.wrap (fBits f + 7) = fBits f + 7 := by unfold fBits; exact wrap_i64 (by omega) (by omega)
 have h2 : IntKind.i64.wrap ((fBits f + 7).tdiv 8) = fSize f := by
   rw [Int.tdiv_eq_ediv_of_nonneg (by unfold fBits; omega), wrap_i64 (by unfold fBits; omega) (by unfold fBits; omega)]
   unfold fSize fBits; omega
 refine FnP.intro Tryz.func120 rfl rfl fun G w => ?_
 repeat (apply WK.seq)
 refine WK.reg 100 Tryz.ntmps120 (by kernel_rfl) ?_
 intro A hA Q hQ
 simp
 refine hQ _ _ ?_
 clear hQ hA
 repeat (apply WK.seq)
 refine WK.reg 200 Tryz.ntmps120 (by kernel_rfl) ?_
 intro A hA Q hQ
 simp
 refine RunQ.call rfl rfl rfl rfl (by rfl) (by simp (maxDischargeDepth := 120) [h1, h2]) (rfbits_c f) (by simp [h1, h2]) ?_
 refine RunQ.eval ?_
 simp [h1, h2]
 refine hQ _ _ ?_
 clear hQ hA
 refine WK.ret Tryz.func120 (by simp (maxDischargeDepth := 120) [Tryz.results120]) (by simp)
def fIndexN (id : Int) (n : Nat) : Option Nat := (List.range n).find? fun f => (nth fRows f).1 == id
def fIndex (id : Int) : Int × Bool := match fIndexN id 24 with | some f => (f, true) | none => (0, false)
theorem fIndex_some {id : Int} {n : Nat} (hn : n < 24) (h : ∀ j, j < n → ((nth fRows j).1 == id) = false) (he : ((nth fRows n).1 == id) = true) : fIndex id = ((n : Int), true) := by
 unfold fIndex fIndexN
 have : (List.range 24).find? (fun f => (nth fRows f).1 == id) = some n := by
   rw [List.find?_range_eq_some]
   exact ⟨he, List.mem_range.2 hn, fun j hj => by rw [h j hj]; rfl⟩
 rw [this]
theorem fIndex_none {id : Int} (h : ∀ j, j < 24 → ((nth fRows j).1 == id) = false) : fIndex id = (0, false) := by
 unfold fIndex fIndexN
 have : (List.range 24).find? (fun f => (nth fRows f).1 == id) = none := by
   rw [List.find?_eq_none]; intro j hj; rw [h j (List.mem_range.1 hj)]; simp
 rw [this]
theorem fRow_nat (i : Nat) (h : i < 24) : fRow i = nth fRows i := by unfold fRow; rw [if_pos (by omega)]; rfl
theorem rowsC_cl : ClL rowsC = true := ClL_flatMap _ rowEnc_cl _
theorem findex_c (id : Int) : FnP Tryz.prog 181 [.int .i64 id] (.tup [.int .i64 (fIndex id).1, .bool (fIndex id).2]) := by
 refine FnP.intro Tryz.func181 rfl rfl fun G w => ?_
 repeat (apply WK.seq)
 refine WK.reg 100 Tryz.ntmps181 (by kernel_rfl) ?_
 intro A hA Q hQ
 simp
 refine hQ _ _ ?_
 clear hQ hA
 repeat (apply WK.seq)
 refine WK.reg 200 Tryz.ntmps181 (by kernel_rfl) ?_
 intro A hA Q hQ
 simp
 refine RunQ.call rfl rfl rfl rfl (by rfl) (by simp (maxDischargeDepth := 120)) (rows_c) (by simp) ?_
 refine RunQ.eval ?_
 simp
 refine hQ _ _ ?_
 clear hQ hA
 repeat (apply WK.block)
 refine WK.lI (fun n => n) (fun i : Nat => (⟨(upd (upd (upd J 0 (.int .i64 id)) 6 (.agg rowsC)) 7 (.int .i64 i)), B0, 0⟩ : St)) (fun i => i ≤ 24 ∧ ∀ j, j < i → ((nth fRows j).1 == id) = false) (fun i => 24 - i) (0) (by repeat (first | exact TmW.nil | refine TmW.upd ?_ (by simp (maxDischargeDepth := 120) [rowsC_cl]))) (by repeat (first | exact BxW.nil | refine BxW.upd ?_ (by simp (maxDischargeDepth := 120) [rowsC_cl]))) InjW.id (⟨by omega, by simp⟩) (fun i hi IH => ?_)
 repeat (apply WK.seq)
 refine WK.reg 300 Tryz.ntmps181 (by kernel_rfl) ?_
 intro A hA Q hQ
 simp
 refine hQ _ _ ?_
 clear hQ hA
 repeat (apply WK.seq)
 refine WK.c2 rfl (fun h1 => ?_) (fun h1 => ?_)
 · simp at h1
   have h2 : i < 24 := by omega
   have h2' : (i : Int) < 24 := by omega
   have h3 : i * 4 + 4 ≤ 96 := by omega
   have h4 := row_sub i ⟨by omega, by omega⟩
   rw [Int.toNat_natCast, fRow_nat i h2] at h4
   have h6 : IntKind.i64.wrap ((i : Int) + 1) = i + 1 := wrap_i64 (by omega) (by omega)
   repeat (first | apply WK.seq | apply WK.block | apply WK.skip)
   refine WK.reg 400 Tryz.ntmps181 (by kernel_rfl) ?_
   intro A hA Q hQ
   simp [h2, h2', h3, h4, rowEnc]
   refine hQ _ _ ?_
   clear hQ hA
   repeat (apply WK.seq)
   refine WK.reg 500 Tryz.ntmps181 (by kernel_rfl) ?_
   intro A hA Q hQ
   simp
   refine hQ _ _ ?_
   clear hQ hA
   refine WK.c2 rfl (fun h5 => ?_) (fun h5 => ?_)
   · have e := fIndex_some h2 hi.2 h5
     repeat (apply WK.seq)
     refine WK.reg 600 Tryz.ntmps181 (by kernel_rfl) ?_
     intro A hA Q hQ
     simp
     refine hQ _ _ ?_
     clear hQ hA
     refine WK.ret Tryz.func181 (by simp (maxDischargeDepth := 120) [Tryz.results181, e]) (by simp [e])
   · repeat (first | apply WK.inBlock | apply WK.skip)
     refine WK.reg 700 Tryz.ntmps181 (by kernel_rfl) ?_
     intro A hA Q hQ
     simp [h6]
     refine hQ _ _ ?_
     clear hQ hA
     refine WK.next (fun n => n) (IH (i + 1) (⟨by omega, fun j hj => by by_cases h7 : j = i; (subst h7; exact h5); exact hi.2 j (by omega)⟩) (by first | omega | (dsimp only; omega))) (by repeat (first | exact TmW.nil | refine TmW.upd ?_ (by simp (maxDischargeDepth := 120) [h6, rowsC_cl]))) (by repeat (first | exact BxW.nil | refine BxW.upd ?_ (by simp (maxDischargeDepth := 120) [h6, rowsC_cl]))) InjW.id
 · simp at h1
   have e := fIndex_none (id := id) (fun j hj => hi.2 j (by omega))
   repeat (first | apply WK.seq | refine WK.exit rfl ?_)
   refine WK.reg 800 Tryz.ntmps181 (by kernel_rfl) ?_
   intro A hA Q hQ
   simp
   refine hQ _ _ ?_
   clear hQ hA
   refine WK.ret Tryz.func181 (by simp (maxDischargeDepth := 120) [Tryz.results181, e]) (by simp [e])

def hb (x : BitVec 64) (k : Nat) : BitVec 8 := (x >>> k).setWidth 8
theorem wrap_u8u (x : BitVec 64) : IntKind.wrap .u8 (uI x) = bI (x.setWidth 8) := by
 rw [wrap_u8, bI_of]; unfold bI uI; rw [BitVec.toNat_setWidth]; omega
theorem shr_uI (x : BitVec 64) (k : Nat) (hk : k ≤ 64) : bShr .u64 (uI x) k = uI (x >>> k) := by
 unfold bShr
 have : min (Int.toNat (k : Int)) (IntKind.bits .u64) = k := by show min (Int.toNat (k : Int)) 64 = k; omega
 rw [this, Int.fdiv_eq_ediv_of_nonneg _ (by exact Int.le_of_lt (Int.pow_pos (by decide)))]
 unfold uI
 rw [BitVec.toNat_ushiftRight, Nat.shiftRight_eq_div_pow]
 simp
theorem by_set (l : List (BitVec 8)) (i : Nat) (v : BitVec 8) (h : i < l.length) : (byL l).take i ++ .int .u8 (bI v) :: (byL l).drop (i + 1) = byL (l.set i v) := by
 unfold byL
 rw [List.map_set, List.set_eq_take_append_cons_drop]
 simp [h]
def wBytes (a : Wide) : List (BitVec 8) := (List.range 16).map fun j => if j < 8 then hb a.hi (56 - 8 * j) else hb a.lo (56 - 8 * (j - 8))
def wAt (a : Wide) (i : Nat) : List (BitVec 8) := (List.range 16).map fun j => if j < 8 then (if j < i then hb a.hi (56 - 8 * j) else 0#8) else (if j - 8 < i then hb a.lo (56 - 8 * (j - 8)) else 0#8)
theorem wAt_len (a : Wide) (i : Nat) : (wAt a i).length = 16 := by simp [wAt]
theorem wAt_zero (a : Wide) : byL (wAt a 0) = List.replicate 16 (.int .u8 0) := rfl
theorem wAt_eight (a : Wide) : wAt a 8 = wBytes a := rfl
theorem wAt_succ (a : Wide) (i : Nat) (h : i < 8) : ((wAt a i).set i (hb a.hi (56 - 8 * i))).set (8 + i) (hb a.lo (56 - 8 * i)) = wAt a (i + 1) := by
 match i, h with
 | 0, _ => rfl
 | 1, _ => rfl
 | 2, _ => rfl
 | 3, _ => rfl
 | 4, _ => rfl
 | 5, _ => rfl
 | 6, _ => rfl
 | 7, _ => rfl
def wPut (b : List (BitVec 8)) (a : Wide) (s : Nat) : List (BitVec 8) := b ++ (wBytes a).drop (16 - s)
theorem wBytes_len (a : Wide) : (wBytes a).length = 16 := by simp [wBytes]
theorem wPut_len (b : List (BitVec 8)) (a : Wide) (s : Nat) (h : s ≤ 16) : (wPut b a s).length = b.length + s := by simp [wPut, wBytes_len]; omega
set_option maxHeartbeats 4000000 in
theorem wput_c (b : List (BitVec 8)) (a : Wide) (s : Nat) (hs : s ≤ 16) (hb' : b.length ≤ 1000000) : FnO Tryz.prog 235 [byS b, .agg a.enc, .int .i64 s] (wPut b a s).length 1 (byL (wPut b a s)) := by
 have hf := by_full b b.length rfl
 have hbd : b.length ≤ 140737488355328 := by omega
 have hz := wAt_zero a
 rw [wPut_len b a s hs]
 unfold byS
 refine FnO.intro Tryz.func235 rfl rfl fun G w => ?_
 repeat (apply WK.seq)
 refine WK.reg 100 Tryz.ntmps235 (by kernel_rfl) ?_
 intro A hA Q hQ
 simp
 refine hQ _ _ ?_
 clear hQ hA
 repeat (apply WK.seq)
 refine WK.ghost (Ghost.frzVar 4 rfl rfl) ?_
 refine WK.reg 200 Tryz.ntmps235 (by kernel_rfl) ?_
 intro A hA Q hQ
 simp
 refine hQ _ _ ?_
 clear hQ hA
 repeat (apply WK.seq)
 refine WK.reg 300 Tryz.ntmps235 (by kernel_rfl) ?_
 intro A hA Q hQ
 simp
 refine hQ _ _ ?_
 clear hQ hA
 repeat (apply WK.block)
 refine WK.lI (fun _ => 100) (fun i : Nat => (⟨(upd (upd (upd (upd (upd J 0 (.sl false b.length (byL b))) 2 (.int .i64 s)) 4 (.iptr a.enc)) 7 (.ptr 1 0)) 10 (.int .i64 i)), (upd B0 1 (.var (byL (wAt a i)))), 0⟩ : St)) (fun i => i ≤ 8) (fun i => 8 - i) (0) (by repeat (first | exact TmW.nil | refine TmW.upd ?_ (by simp (maxDischargeDepth := 120) [hz]))) (by repeat (first | exact BxW.nil | refine BxW.upd ?_ (by simp (maxDischargeDepth := 120) [hz]))) (by first | exact InjW.id | exact InjW.nil | exact InjW.one | exact InjW.two (by simp) | exact InjW.three (by simp) (by simp) (by simp)) (by omega) (fun i hi IH => ?_)
 repeat (apply WK.seq)
 refine WK.reg 400 Tryz.ntmps235 (by kernel_rfl) ?_
 intro A hA Q hQ
 simp
 refine hQ _ _ ?_
 clear hQ hA
 repeat (apply WK.seq)
 refine WK.c2 rfl (fun h1 => ?_) (fun h1 => ?_)
 · simp at h1
   have h2 : i < 8 := by omega
   have h2' : (i : Int) < 16 := by omega
   have h6 : IntKind.i64.wrap ((i : Int) + 1) = i + 1 := wrap_i64 (by omega) (by omega)
   have m0 : IntKind.i64.wrap (8 + (i : Int)) = 8 + (i : Int) := wrap_i64 (by omega) (by omega)
   have m1 : IntKind.i64.wrap (8 * (i : Int)) = 8 * (i : Int) := wrap_i64 (by omega) (by omega)
   have m2 : IntKind.i64.wrap (56 - 8 * (i : Int)) = ((56 - 8 * i : Nat) : Int) := by rw [wrap_i64 (by omega) (by omega)]; omega
   have hsu := wAt_succ a i h2
   obtain ⟨q, hq⟩ : ∃ q, q = 56 - 8 * i := ⟨_, rfl⟩
   rw [← hq] at m2 hsu
   have m3 := shr_uI a.hi q (by omega)
   have m4 := shr_uI a.lo q (by omega)
   have m5 : IntKind.wrap .u8 (uI (a.hi >>> q)) = bI (hb a.hi q) := wrap_u8u _
   have m6 : IntKind.wrap .u8 (uI (a.lo >>> q)) = bI (hb a.lo q) := wrap_u8u _
   have hl := wAt_len a i
   have s1 := by_set (wAt a i) i (hb a.hi q) (by omega)
   have s2 := by_set ((wAt a i).set i (hb a.hi q)) (8 + i) (hb a.lo q) (by rw [List.length_set]; omega)
   rw [hsu] at s2
   have c1 : (8 : Int) + i < 16 := by omega
   have c2 : ((8 : Int) + i).toNat = 8 + i := by omega
   have c3 : (0 : Int) ≤ 8 + (i : Int) := by omega
   have m7 : ¬ (q : Int) < 0 := by omega
   have c4 : i + 1 ≤ 16 := by omega
   have c5 : 8 + i + 1 ≤ 16 := by omega
   repeat (first | apply WK.seq | apply WK.block | apply WK.skip)
   refine WK.reg 500 Tryz.ntmps235 (by kernel_rfl) ?_
   intro A hA Q hQ
   simp
   refine hQ _ _ ?_
   clear hQ hA
   refine WK.regD 600 (clsM [(16, 77), (23, 77), (30, 1), (31, 1)]) (by kernel_rfl) Tryz.ntmps235 (by kernel_rfl) (by kernel_rfl) ?_
   intro A hA Q hQ
   simp [Wide.enc, m0, m1, m2, m3, m4, m5, m6, m7, h2, h2', hl, s1, s2, c1, c2, c3, c4, c5]
   refine hQ _ _ ?_
   clear hQ hA
   repeat (apply WK.inBlock)
   refine WK.reg 700 Tryz.ntmps235 (by kernel_rfl) ?_
   intro A hA Q hQ
   simp [h6]
   refine hQ _ _ ?_
   clear hQ hA
   refine WK.next (fun n => n) (IH (i + 1) (by omega) (by first | omega | (dsimp only; omega))) (by repeat (first | exact TmW.nil | refine TmW.upd ?_ (by simp (maxDischargeDepth := 120) [h6, Wide.enc]))) (by repeat (first | exact BxW.nil | refine BxW.upd ?_ (by simp (maxDischargeDepth := 120) [h6, Wide.enc]))) InjW.id
 · simp at h1
   have hi8 : i = 8 := by omega
   subst hi8
   rw [wAt_eight]
   repeat (first | apply WK.seq | refine WK.exit rfl ?_)
   refine WK.ghost (Ghost.frzVar 7 rfl rfl) ?_
   refine WK.reg 800 Tryz.ntmps235 (by kernel_rfl) ?_
   intro A hA Q hQ
   simp
   refine RunQ.append0 900 901 appByte rfl rfl rfl rfl rfl rfl rfl (by simp [hbd]) (by simp [hbd]) (by simp [hbd]) (by simp [hbd]) (by simp [hbd]) (by simp [hbd]) (by simp) ?_
   refine RunQ.eval ?_
   simp [hbd]
   refine hQ _ _ ?_
   clear hQ hA
   obtain ⟨q, hq⟩ : ∃ q, q = 16 - s := ⟨_, rfl⟩
   have mx : ¬ (s : Int) < 0 := by omega
   have mn : ¬ (16 : Int) < s := by omega
   have m1 : IntKind.i64.wrap (16 - (s : Int)) = (q : Int) := by rw [wrap_i64 (by omega) (by omega)]; omega
   have m2 : (q : Int) ≤ 16 := by omega
   have m3 : 16 - q = s := by omega
   have hwl := wBytes_len a
   have hdl : ((wBytes a).drop q).length = s := by rw [List.length_drop, hwl]; omega
   have m5 : (byL (wBytes a)).drop q = byL ((wBytes a).drop q) := byL_drop _ _
   have m6 : (byL ((wBytes a).drop q)).take s = byL ((wBytes a).drop q) := by_full _ _ hdl.symm
   have e : wPut b a s = b ++ (wBytes a).drop q := by unfold wPut; rw [hq]
   have hbd2 : b.length + s ≤ 140737488355328 := by omega
   rw [e, hf]
   repeat (apply WK.seq)
   refine WK.reg 900 Tryz.ntmps235 (by kernel_rfl) ?_
   intro A hA Q hQ
   simp [mx, mn, m1, m2, m3, m5, m6]
   refine RunQ.append 902 appByte rfl rfl rfl rfl rfl rfl rfl (by simp [hbd2, hdl, m6]) rfl (by simp [hbd2, hdl, m6]) (by simp [hbd2, hdl, m6]) (by simp [hbd2, hdl, m6]) (by simp [hbd2, hdl, m6]) ?_
   refine RunQ.eval ?_
   simp [hbd2, hdl, m6]
   refine hQ _ _ ?_
   clear hQ hA
   refine WK.retO Tryz.func235 (by rfl) (by rfl) (by simp (maxDischargeDepth := 120) [byL_app, m6]) (by simp [byL_app, m6])

theorem wrap_u64n {n : Int} (h : 0 ≤ n) (h' : n < 9223372036854775808) : IntKind.wrap .u64 n = n := by
 unfold IntKind.wrap
 show (if (false && decide (n % 18446744073709551616 ≥ 9223372036854775808)) = true then n % 18446744073709551616 - 18446744073709551616 else n % 18446744073709551616) = n
 rw [Bool.false_and, if_neg Bool.false_ne_true]
 exact Int.emod_eq_of_lt h (by omega)
def partW (a : Wide) (i : Nat) : BitVec 8 := if i < 8 then hb a.lo (8 * i) else hb a.hi (8 * (i - 8))
theorem part_c (a : Wide) (i : Nat) (hi : i < 16) : FnP Tryz.prog 84 [.agg a.enc, .int .i64 i] (.int .u8 (bI (partW a i))) := by
 by_cases h8 : i < 8
 · have e : partW a i = hb a.lo (8 * i) := by unfold partW; rw [if_pos h8]
   obtain ⟨q, hq⟩ : ∃ q, q = 8 * i := ⟨_, rfl⟩
   rw [← hq] at e
   have m1 : IntKind.i64.wrap (8 * (i : Int)) = (q : Int) := by rw [wrap_i64 (by omega) (by omega)]; omega
   have m2 : IntKind.u64.wrap (q : Int) = q := wrap_u64n (by omega) (by omega)
   have m3 := shr_uI a.lo q (by omega)
   have m4 : IntKind.wrap .u8 (uI (a.lo >>> q)) = bI (hb a.lo q) := wrap_u8u _
   have m7 : ¬ (q : Int) < 0 := by omega
   refine FnP.intro Tryz.func84 rfl rfl fun G w => ?_
   repeat (apply WK.seq)
   refine WK.reg 100 Tryz.ntmps84 (by kernel_rfl) ?_
   intro A hA Q hQ
   simp
   refine hQ _ _ ?_
   clear hQ hA
   repeat (apply WK.seq)
   refine WK.ghost (Ghost.frzVar 2 rfl rfl) ?_
   refine WK.reg 200 Tryz.ntmps84 (by kernel_rfl) ?_
   intro A hA Q hQ
   simp
   refine hQ _ _ ?_
   clear hQ hA
   refine WK.c2 rfl (fun h => ?_) (fun h => ?_)
   · repeat (apply WK.seq)
     refine WK.reg 300 Tryz.ntmps84 (by kernel_rfl) ?_
     intro A hA Q hQ
     simp [Wide.enc, m1, m2, m3, m4, m7]
     refine hQ _ _ ?_
     clear hQ hA
     refine WK.ret Tryz.func84 (by simp (maxDischargeDepth := 120) [Tryz.results84, e]) (by simp [e])
   · simp at h; omega
 · have e : partW a i = hb a.hi (8 * (i - 8)) := by unfold partW; rw [if_neg h8]
   obtain ⟨q, hq⟩ : ∃ q, q = 8 * (i - 8) := ⟨_, rfl⟩
   rw [← hq] at e
   have m0 : IntKind.i64.wrap ((i : Int) - 8) = ((i - 8 : Nat) : Int) := by rw [wrap_i64 (by omega) (by omega)]; omega
   obtain ⟨i8, hi8⟩ : ∃ i8, i8 = i - 8 := ⟨_, rfl⟩
   rw [← hi8] at m0
   have m1 : IntKind.i64.wrap (8 * (i8 : Int)) = (q : Int) := by rw [wrap_i64 (by omega) (by omega)]; omega
   have m2 : IntKind.u64.wrap (q : Int) = q := wrap_u64n (by omega) (by omega)
   have m3 := shr_uI a.hi q (by omega)
   have m4 : IntKind.wrap .u8 (uI (a.hi >>> q)) = bI (hb a.hi q) := wrap_u8u _
   have m7 : ¬ (q : Int) < 0 := by omega
   refine FnP.intro Tryz.func84 rfl rfl fun G w => ?_
   repeat (apply WK.seq)
   refine WK.reg 100 Tryz.ntmps84 (by kernel_rfl) ?_
   intro A hA Q hQ
   simp
   refine hQ _ _ ?_
   clear hQ hA
   repeat (apply WK.seq)
   refine WK.ghost (Ghost.frzVar 2 rfl rfl) ?_
   refine WK.reg 200 Tryz.ntmps84 (by kernel_rfl) ?_
   intro A hA Q hQ
   simp
   refine hQ _ _ ?_
   clear hQ hA
   refine WK.c2 rfl (fun h => ?_) (fun h => ?_)
   · simp at h; omega
   · repeat (first | apply WK.seq | apply WK.skip)
     refine WK.reg 300 Tryz.ntmps84 (by kernel_rfl) ?_
     intro A hA Q hQ
     simp [Wide.enc, m0, m1, m2, m3, m4, m7]
     refine hQ _ _ ?_
     clear hQ hA
     refine WK.ret Tryz.func84 (by simp (maxDischargeDepth := 120) [Tryz.results84, e]) (by simp [e])
theorem wB_get (a : Wide) (s t : Nat) (hs : s ≤ 16) (ht : t < s) : ((wBytes a).drop (16 - s)).take (t + 1) = ((wBytes a).drop (16 - s)).take t ++ [partW a (s - 1 - t)] := by
 have h' : t < ((wBytes a).drop (16 - s)).length := by rw [List.length_drop, wBytes_len]; omega
 rw [List.take_succ_eq_append_getElem h']
 congr 2
 simp only [List.getElem_drop, wBytes, List.getElem_map, List.getElem_range, partW]
 by_cases h8 : 16 - s + t < 8
 · rw [if_pos h8, if_neg (by omega)]; congr 1; omega
 · rw [if_neg h8, if_pos (by omega)]; congr 1; omega
set_option maxHeartbeats 2000000 in
theorem rwput_c (b : List (BitVec 8)) (a : Wide) (s : Nat) (hs : s ≤ 16) (hb' : b.length ≤ 1000000) : FnO Tryz.prog 53 [byS b, .agg a.enc, .int .i64 s] (wPut b a s).length 1 (byL (wPut b a s)) := by
 have hf := by_full b b.length rfl
 have hbd : b.length ≤ 140737488355328 := by omega
 obtain ⟨X, hX⟩ : ∃ X, X = (wBytes a).drop (16 - s) := ⟨_, rfl⟩
 have hXl : X.length = s := by rw [hX, List.length_drop, wBytes_len]; omega
 have e : wPut b a s = b ++ X := by unfold wPut; rw [hX]
 have hz : X.take 0 = [] := rfl
 have mx : ¬ (s : Int) < 0 := by omega
 have mn : ¬ (16 : Int) < s := by omega
 have w1 : IntKind.i64.wrap ((s : Int) - 1) = (s : Int) - 1 := wrap_i64 (by omega) (by omega)
 rw [wPut_len b a s hs, e]
 unfold byS
 refine FnO.intro Tryz.func53 rfl rfl fun G w => ?_
 repeat (apply WK.seq)
 refine WK.reg 100 Tryz.ntmps53 (by kernel_rfl) ?_
 intro A hA Q hQ
 simp
 refine hQ _ _ ?_
 clear hQ hA
 repeat (apply WK.seq)
 refine WK.ghost (Ghost.frzVar 4 rfl rfl) ?_
 refine WK.reg 200 Tryz.ntmps53 (by kernel_rfl) ?_
 intro A hA Q hQ
 simp
 refine RunQ.append0 900 901 appByte rfl rfl rfl rfl rfl rfl rfl (by simp [hbd]) (by simp [hbd]) (by simp [hbd]) (by simp [hbd]) (by simp [hbd]) (by simp [hbd]) (by simp) ?_
 refine RunQ.eval ?_
 simp [hbd]
 refine hQ _ _ ?_
 clear hQ hA
 repeat (apply WK.seq)
 refine WK.reg 300 Tryz.ntmps53 (by kernel_rfl) ?_
 intro A hA Q hQ
 simp [mx, mn, w1]
 refine hQ _ _ ?_
 clear hQ hA
 repeat (apply WK.block)
 refine WK.lI (fun _ => 901) (fun t : Nat => (⟨(upd (upd (upd J 4 (.iptr a.enc)) 7 (.msl 1 0 (b.length + t))) 8 (.int .i64 ((s : Int) - 1 - t))), (upd B0 1 (.buf 1 (byL (b ++ X.take t)))), 0⟩ : St)) (fun t => t ≤ s) (fun t => s - t) (0) (by repeat (first | exact TmW.nil | refine TmW.upd ?_ (by simp (maxDischargeDepth := 120) [hz, hf]))) (by repeat (first | exact BxW.nil | refine BxW.upd ?_ (by simp (maxDischargeDepth := 120) [hz, hf]))) (by first | exact InjW.id | exact InjW.nil | exact InjW.one | exact InjW.two (by simp) | exact InjW.three (by simp) (by simp) (by simp)) (Nat.zero_le _) (fun t ht IHt => ?_)
 repeat (apply WK.seq)
 refine WK.reg 400 Tryz.ntmps53 (by kernel_rfl) ?_
 intro A hA Q hQ
 simp
 refine hQ _ _ ?_
 clear hQ hA
 refine WK.c2 rfl (fun h1 => ?_) (fun h1 => ?_)
 · simp at h1
   have h2 : t < s := by omega
   have hg := wB_get a s t hs h2
   rw [← hX] at hg
   obtain ⟨j, hj⟩ : ∃ j, j = s - 1 - t := ⟨_, rfl⟩
   rw [← hj] at hg
   have ej : (s : Int) - 1 - t = (j : Int) := by omega
   have w9 : IntKind.i64.wrap ((j : Int) - 1) = (s : Int) - 1 - ((t : Int) + 1) := by rw [wrap_i64 (by omega) (by omega)]; omega
   have hs' : byL (b ++ X.take t) ++ [.int .u8 (bI (partW a j))] = byL (b ++ X.take (t + 1)) := by
     rw [hg, ← byL_one, ← byL_app, List.append_assoc]
   have hL : (X.take t).length = t := by rw [List.length_take, hXl]; omega
   have hbd2 : b.length + t + 1 ≤ 140737488355328 := by omega
   rw [ej]
   repeat (first | apply WK.seq | apply WK.block | apply WK.skip)
   refine WK.reg 500 Tryz.ntmps53 (by kernel_rfl) ?_
   intro A hA Q hQ
   simp [Wide.enc]
   refine RunQ.call rfl rfl rfl rfl (by rfl) (by simp (maxDischargeDepth := 120) [Wide.enc]) (part_c a j (by omega)) (by simp [Wide.enc]) ?_
   refine RunQ.eval ?_
   simp [Wide.enc]
   refine RunQ.append 902 appByte rfl rfl rfl rfl rfl rfl rfl (by simp [hbd2, hL]) rfl (by simp [hbd2, hL]) (by simp [hbd2, hL]) (by simp [hbd2, hL]) (by simp [hbd2, hL]) ?_
   refine RunQ.eval ?_
   simp [hbd2, hL]
   refine hQ _ _ ?_
   clear hQ hA
   repeat (apply WK.inBlock)
   refine WK.reg 600 Tryz.ntmps53 (by kernel_rfl) ?_
   intro A hA Q hQ
   simp [w9]
   refine hQ _ _ ?_
   clear hQ hA
   refine WK.next (fun n => if n = 1 then 902 else n) (IHt (t + 1) (by omega) (by first | omega | (dsimp only; omega))) (by repeat (first | exact TmW.nil | refine TmW.upd ?_ (by simp (maxDischargeDepth := 120) [w9, hs', Nat.add_assoc, Wide.enc]))) (by repeat (first | exact BxW.nil | refine BxW.upd ?_ (by simp (maxDischargeDepth := 120) [w9, hs', Nat.add_assoc, Wide.enc]))) (by first | exact InjW.id | exact InjW.nil | exact InjW.one | exact InjW.two (by simp) | exact InjW.three (by simp) (by simp) (by simp))
 · simp at h1
   have h2 : t = s := by omega
   have hT : X.take t = X := by rw [h2]; exact List.take_of_length_le (by omega)
   rw [h2]
   rw [h2] at hT
   rw [hT]
   repeat (first | apply WK.seq | refine WK.exit rfl ?_)
   refine WK.reg 700 Tryz.ntmps53 (by kernel_rfl) ?_
   intro A hA Q hQ
   simp
   refine hQ _ _ ?_
   clear hQ hA
   refine WK.retO Tryz.func53 (by rfl) (by rfl) (by simp (maxDischargeDepth := 120)) (by simp)
def wStep (a : Wide) (x : BitVec 8) : Wide := ⟨(a.hi <<< 8) ||| (a.lo >>> 56), (a.lo <<< 8) ||| x.setWidth 64⟩
def wVal (l : List (BitVec 8)) : Wide := l.foldl wStep wideZ
theorem wVal_snoc (l : List (BitVec 8)) (x : BitVec 8) : wVal (l ++ [x]) = wStep (wVal l) x := by simp [wVal]
def wGet (b : List (BitVec 8)) (s : Nat) : Wide × Bool := if s ≤ b.length then (wVal (b.take s), true) else (wideZ, false)
theorem shl_uI (x : BitVec 64) : bShl .u64 (uI x) 8 = uI (x <<< 8) := by
 unfold bShl
 show IntKind.wrap .u64 (uI x * 2 ^ 8) = _
 unfold IntKind.wrap uI
 show (if (false && decide (((x.toNat : Int) * 2 ^ 8) % 18446744073709551616 ≥ 9223372036854775808)) = true then _ else ((x.toNat : Int) * 2 ^ 8) % 18446744073709551616) = _
 rw [Bool.false_and, if_neg Bool.false_ne_true, BitVec.toNat_shiftLeft, Nat.shiftLeft_eq]
 omega
theorem cvt_u64 (x : BitVec 8) : IntKind.wrap .u64 (bI x) = uI (x.setWidth 64) := by
 have hx := x.isLt
 rw [wrap_u64n (by unfold bI; omega) (by unfold bI; omega)]
 unfold bI uI
 rw [BitVec.toNat_setWidth]; omega
set_option maxHeartbeats 2000000 in
theorem wget_c (b : List (BitVec 8)) (s : Nat) (hs : s ≤ 16) (hb' : b.length ≤ 9223372036854775807) : FnP Tryz.prog 102 [byS b, .int .i64 s] (.tup [.agg (wGet b s).1.enc, .bool (wGet b s).2]) := by
 have mx : ¬ (s : Int) < 0 := by omega
 have h56 : ∀ x, bShr .u64 (uI x) 56 = uI (x >>> 56) := fun x => shr_uI x 56 (by omega)
 have h8 := shl_uI
 have hcv := cvt_u64
 unfold byS
 by_cases hle : s ≤ b.length
 case neg =>
   have e : wGet b s = (wideZ, false) := by unfold wGet; rw [if_neg hle]
   have m1 : ¬ (16 : Int) < b.length := by omega
   have m2 : (b.length : Int) < s := by omega
   have m3 : b.length < s := by omega
   refine FnP.intro Tryz.func102 rfl rfl fun G w => ?_
   repeat (apply WK.seq)
   refine WK.reg 100 Tryz.ntmps102 (by kernel_rfl) ?_
   intro A hA Q hQ
   simp
   refine hQ _ _ ?_
   clear hQ hA
   repeat (apply WK.seq)
   refine WK.reg 200 Tryz.ntmps102 (by kernel_rfl) ?_
   intro A hA Q hQ
   have hg2 : (A[2]?).bind (·.dst) = some 11 := by rw [hA]; rfl
   simp [mx, m1, m2, m3, hg2]
   refine hQ _ _ ?_
   clear hQ hA
   refine WK.c2 rfl (fun h => ?_) (fun h => ?_)
   · repeat (apply WK.seq)
     refine WK.reg 300 Tryz.ntmps102 (by kernel_rfl) ?_
     intro A hA Q hQ
     simp
     refine hQ _ _ ?_
     clear hQ hA
     refine WK.ret Tryz.func102 (by simp (maxDischargeDepth := 120) [Tryz.results102, e, wideZ, Wide.enc, uZ_]) (by simp [e, wideZ, Wide.enc, uZ_])
   · simp at h
 have e : wGet b s = (wVal (b.take s), true) := by unfold wGet; rw [if_pos hle]
 obtain ⟨l, hl⟩ : ∃ l, l = b.take s := ⟨_, rfl⟩
 have hll : l.length = s := by rw [hl, List.length_take]; omega
 have hsl : (byL b).take s = byL l := by rw [byL_take, hl]
 have hv0 : wVal [] = wideZ := rfl
 have c1 : (s : Int) ≤ b.length := by omega
 rw [← hl] at e
 refine FnP.intro Tryz.func102 rfl rfl fun G w => ?_
 repeat (apply WK.seq)
 refine WK.reg 100 Tryz.ntmps102 (by kernel_rfl) ?_
 intro A hA Q hQ
 simp
 refine hQ _ _ ?_
 clear hQ hA
 repeat (apply WK.seq)
 apply WK.cut (⟨(upd (upd (upd (upd J 0 (.sl false b.length (byL b))) 1 (.int .i64 s)) 4 (.ptr 50 0)) 17 (.bool false)), (upd B0 50 (.var wideZ.enc)), 0⟩ : St)
 · intro hcut
   by_cases m1 : (16 : Int) < b.length
   · have m2 : ¬ (16 : Int) < s := by omega
     have m4 : 16 < b.length := by omega
     refine WK.reg 200 Tryz.ntmps102 (by kernel_rfl) ?_
     intro A hA Q hQ
     have hg2 : (A[2]?).bind (·.dst) = some 11 := by rw [hA]; rfl
     simp [mx, m1, m2, m4, hg2]
     refine hQ _ _ ?_
     clear hQ hA
     refine WK.next (fun n => if n = 50 then 0 else n) hcut (by repeat (first | exact TmW.nil | refine TmW.upd ?_ (by simp (maxDischargeDepth := 120) [wideZ, Wide.enc, uZ_]))) (by repeat (first | exact BxW.nil | refine BxW.upd ?_ (by simp (maxDischargeDepth := 120) [wideZ, Wide.enc, uZ_]))) (by first | exact InjW.id | exact InjW.nil | exact InjW.one | exact InjW.two (by simp) | exact InjW.three (by simp) (by simp) (by simp))
   · have m2 : ¬ (b.length : Int) < s := by omega
     have m3 : ¬ b.length < s := by omega
     have m4 : ¬ 16 < b.length := by omega
     refine WK.reg 300 Tryz.ntmps102 (by kernel_rfl) ?_
     intro A hA Q hQ
     have hg2 : (A[2]?).bind (·.dst) = some 11 := by rw [hA]; rfl
     simp [mx, m1, m2, m3, m4, hg2]
     refine hQ _ _ ?_
     clear hQ hA
     refine WK.next (fun n => if n = 50 then 0 else n) hcut (by repeat (first | exact TmW.nil | refine TmW.upd ?_ (by simp (maxDischargeDepth := 120) [wideZ, Wide.enc, uZ_]))) (by repeat (first | exact BxW.nil | refine BxW.upd ?_ (by simp (maxDischargeDepth := 120) [wideZ, Wide.enc, uZ_]))) (by first | exact InjW.id | exact InjW.nil | exact InjW.one | exact InjW.two (by simp) | exact InjW.three (by simp) (by simp) (by simp))
 refine WK.c2 rfl (fun h => ?_) (fun h => ?_)
 · cases h
 repeat (first | apply WK.seq | apply WK.skip)
 refine WK.reg 400 Tryz.ntmps102 (by kernel_rfl) ?_
 intro A hA Q hQ
 simp
 refine hQ _ _ ?_
 clear hQ hA
 repeat (apply WK.seq)
 refine WK.reg 500 Tryz.ntmps102 (by kernel_rfl) ?_
 intro A hA Q hQ
 simp [c1, hsl, hle]
 refine hQ _ _ ?_
 clear hQ hA
 repeat (apply WK.block)
 refine WK.lI (fun n => if n = 51 then 0 else n) (fun i : Nat => (⟨(upd (upd (upd (upd (upd J 4 (.ptr 50 0)) 6 (.ptr 51 0)) 21 (.sl false s (byL l))) 22 (.int .i64 s)) 23 (.int .i64 i)), (upd (upd B0 50 (.var wideZ.enc)) 51 (.var (wVal (l.take i)).enc)), 0⟩ : St)) (fun i => i ≤ s) (fun i => s - i) (0) (by repeat (first | exact TmW.nil | refine TmW.upd ?_ (by simp (maxDischargeDepth := 120) [hv0, wideZ, Wide.enc, uZ_]))) (by repeat (first | exact BxW.nil | refine BxW.upd ?_ (by simp (maxDischargeDepth := 120) [hv0, wideZ, Wide.enc, uZ_]))) (by first | exact InjW.id | exact InjW.nil | exact InjW.one | exact InjW.two (by simp) | exact InjW.three (by simp) (by simp) (by simp)) (Nat.zero_le _) (fun i hi IH => ?_)
 repeat (apply WK.seq)
 refine WK.reg 600 Tryz.ntmps102 (by kernel_rfl) ?_
 intro A hA Q hQ
 simp
 refine hQ _ _ ?_
 clear hQ hA
 repeat (apply WK.seq)
 refine WK.c2 rfl (fun h1 => ?_) (fun h1 => ?_)
 · simp at h1
   have h2 : i < s := by omega
   have h2' : i < l.length := by omega
   have h6 : IntKind.i64.wrap ((i : Int) + 1) = i + 1 := wrap_i64 (by omega) (by omega)
   have hg := by_get l i h2'
   have o3 : wVal (l.take (i + 1)) = wStep (wVal (l.take i)) (nth l i) := by rw [take_nth h2', wVal_snoc]
   obtain ⟨a, ha⟩ : ∃ a, a = wVal (l.take i) := ⟨_, rfl⟩
   rw [← ha] at o3 ⊢
   repeat (first | apply WK.seq | apply WK.block | apply WK.skip)
   refine WK.reg 700 Tryz.ntmps102 (by kernel_rfl) ?_
   intro A hA Q hQ
   simp [h2, h2', hll, hg]
   refine hQ _ _ ?_
   clear hQ hA
   repeat (apply WK.seq)
   refine WK.reg 800 Tryz.ntmps102 (by kernel_rfl) ?_
   intro A hA Q hQ
   simp [Wide.enc, h56, h8]
   refine hQ _ _ ?_
   clear hQ hA
   refine WK.reg 900 Tryz.ntmps102 (by kernel_rfl) ?_
   intro A hA Q hQ
   simp [h8, hcv]
   refine hQ _ _ ?_
   clear hQ hA
   repeat (apply WK.inBlock)
   refine WK.reg 1000 Tryz.ntmps102 (by kernel_rfl) ?_
   intro A hA Q hQ
   simp [h6]
   refine hQ _ _ ?_
   clear hQ hA
   refine WK.next (fun n => n) (IH (i + 1) (by omega) (by first | omega | (dsimp only; omega))) (by repeat (first | exact TmW.nil | refine TmW.upd ?_ (by simp (maxDischargeDepth := 120) [h6, o3, wStep, Wide.enc]))) (by repeat (first | exact BxW.nil | refine BxW.upd ?_ (by simp (maxDischargeDepth := 120) [h6, o3, wStep, Wide.enc]))) InjW.id
 · simp at h1
   have h2 : i = s := by omega
   have hT : l.take i = l := by rw [h2]; exact List.take_of_length_le (by omega)
   rw [hT]
   repeat (first | apply WK.seq | refine WK.exit rfl ?_)
   refine WK.reg 1100 Tryz.ntmps102 (by kernel_rfl) ?_
   intro A hA Q hQ
   simp
   refine hQ _ _ ?_
   clear hQ hA
   refine WK.ret Tryz.func102 (by simp (maxDischargeDepth := 120) [Tryz.results102, e]) (by simp [e])

def Oxm.beyond (o : Oxm) (w : Wide) : Bool := !(w.less (lowW (fBits o.field))).zero
def Oxm.form (o : Oxm) : Int := if Oxm.beyond o o.value then 7 else if !o.masked then 0 else if Oxm.beyond o o.mask || o.mask.zero then 8 else if !(o.value.less o.mask).zero then 5 else 0
def Oxm.right (o : Oxm) : Bool := !(!fRight o.field || ((o.masked && !fMasks o.field) || (!o.masked && !o.mask.zero))) && (Oxm.form o) == 0
theorem obeyond_c (o : Oxm) (w0 : Wide) : FnP Tryz.prog 184 [.agg w0.enc, .iptr o.enc] (.bool (Oxm.beyond o w0)) := by
 refine FnP.intro Tryz.func184 rfl rfl fun G w => ?_
 repeat (apply WK.seq)
 refine WK.reg 100 Tryz.ntmps184 (by kernel_rfl) ?_
 intro A hA Q hQ
 simp
 refine hQ _ _ ?_
 clear hQ hA
 repeat (apply WK.seq)
 refine WK.ghost (Ghost.frzVar 2 rfl rfl) ?_
 refine WK.regD 200 clsOf (by kernel_rfl) Tryz.ntmps184 (by kernel_rfl) (by kernel_rfl) ?_
 intro A hA Q hQ
 simp [Oxm.enc]
 refine RunQ.call rfl rfl rfl rfl (by rfl) (by simp (maxDischargeDepth := 120)) (fbits_c o.field) (by simp) ?_
 refine RunQ.eval ?_
 simp
 refine RunQ.call rfl rfl rfl rfl (by rfl) (by simp (maxDischargeDepth := 120)) (low_c (fBits o.field)) (by simp) ?_
 refine RunQ.eval ?_
 simp
 refine RunQ.call rfl rfl rfl rfl (by rfl) (by simp (maxDischargeDepth := 120)) (less_c w0 (lowW (fBits o.field))) (by simp) ?_
 refine RunQ.eval ?_
 simp
 refine RunQ.call rfl rfl rfl rfl (by rfl) (by simp (maxDischargeDepth := 120)) (zero_c (w0.less (lowW (fBits o.field)))) (by simp) ?_
 refine RunQ.eval ?_
 simp
 refine hQ _ _ ?_
 clear hQ hA
 refine WK.ret Tryz.func184 (by simp (maxDischargeDepth := 120) [Tryz.results184, Oxm.beyond]) (by simp [Oxm.beyond])
set_option maxHeartbeats 2000000 in
theorem oform_c (o : Oxm) : FnP Tryz.prog 161 [.agg o.enc] (.int .i64 (Oxm.form o)) := by
 have hb1 := obeyond_c o o.value
 have hb2 := obeyond_c o o.mask
 have hz := zero_c o.mask
 have hl := less_c o.value o.mask
 have hz2 := zero_c (o.value.less o.mask)
 simp only [Oxm.enc, Wide.enc] at hb1 hb2 hz hl hz2
 cases k1 : Oxm.beyond o o.value
 case true =>
   rw [k1] at hb1
   have e : (Oxm.form o) = 7 := by unfold Oxm.form; rw [k1]; rfl
   refine FnP.intro Tryz.func161 rfl rfl fun G w => ?_
   repeat (apply WK.seq)
   refine WK.reg 100 Tryz.ntmps161 (by kernel_rfl) ?_
   intro A hA Q hQ
   simp [Oxm.enc]
   refine hQ _ _ ?_
   clear hQ hA
   repeat (apply WK.seq)
   refine WK.ghost (Ghost.frzVar 1 rfl rfl) ?_
   refine WK.reg 200 Tryz.ntmps161 (by kernel_rfl) ?_
   intro A hA Q hQ
   simp
   refine hQ _ _ ?_
   clear hQ hA
   repeat (first | apply WK.seq | apply WK.block)
   refine WK.reg 300 Tryz.ntmps161 (by kernel_rfl) ?_
   intro A hA Q hQ
   simp
   refine RunQ.call rfl rfl rfl rfl (by rfl) (by simp (maxDischargeDepth := 120)) (hb1) (by simp) ?_
   refine RunQ.eval ?_
   simp
   refine hQ _ _ ?_
   clear hQ hA
   refine WK.c2 rfl (fun h => ?_) (fun h => ?_)
   · repeat (apply WK.seq)
     refine WK.reg 400 Tryz.ntmps161 (by kernel_rfl) ?_
     intro A hA Q hQ
     simp
     refine hQ _ _ ?_
     clear hQ hA
     refine WK.ret Tryz.func161 (by simp (maxDischargeDepth := 120) [Tryz.results161, e]) (by simp [e])
   · cases h
 rw [k1] at hb1
 cases k2 : o.masked
 case false =>
   have e : (Oxm.form o) = 0 := by unfold Oxm.form; rw [k1, k2]; rfl
   rw [k2] at hb1
   refine FnP.intro Tryz.func161 rfl rfl fun G w => ?_
   repeat (apply WK.seq)
   refine WK.reg 100 Tryz.ntmps161 (by kernel_rfl) ?_
   intro A hA Q hQ
   simp [Oxm.enc, k2]
   refine hQ _ _ ?_
   clear hQ hA
   repeat (apply WK.seq)
   refine WK.ghost (Ghost.frzVar 1 rfl rfl) ?_
   refine WK.reg 200 Tryz.ntmps161 (by kernel_rfl) ?_
   intro A hA Q hQ
   simp
   refine hQ _ _ ?_
   clear hQ hA
   repeat (first | apply WK.seq | apply WK.block)
   refine WK.reg 300 Tryz.ntmps161 (by kernel_rfl) ?_
   intro A hA Q hQ
   simp
   refine RunQ.call rfl rfl rfl rfl (by rfl) (by simp (maxDischargeDepth := 120)) (hb1) (by simp) ?_
   refine RunQ.eval ?_
   simp
   refine hQ _ _ ?_
   clear hQ hA
   refine WK.c2 rfl (fun h => ?_) (fun h => ?_)
   · cases h
   repeat (apply WK.seq)
   refine WK.reg 400 Tryz.ntmps161 (by kernel_rfl) ?_
   intro A hA Q hQ
   simp
   refine hQ _ _ ?_
   clear hQ hA
   refine WK.c2 rfl (fun h => ?_) (fun h => ?_)
   · repeat (apply WK.seq)
     refine WK.reg 500 Tryz.ntmps161 (by kernel_rfl) ?_
     intro A hA Q hQ
     simp
     refine hQ _ _ ?_
     clear hQ hA
     refine WK.ret Tryz.func161 (by simp (maxDischargeDepth := 120) [Tryz.results161, e]) (by simp [e])
   · cases h
 rw [k2] at hb1 hb2
 cases k3 : Oxm.beyond o o.mask || o.mask.zero
 case true =>
   have e : (Oxm.form o) = 8 := by unfold Oxm.form; rw [k1, k2, k3]; rfl
   refine FnP.intro Tryz.func161 rfl rfl fun G w => ?_
   repeat (apply WK.seq)
   refine WK.reg 100 Tryz.ntmps161 (by kernel_rfl) ?_
   intro A hA Q hQ
   simp [Oxm.enc, k2]
   refine hQ _ _ ?_
   clear hQ hA
   repeat (apply WK.seq)
   refine WK.ghost (Ghost.frzVar 1 rfl rfl) ?_
   refine WK.reg 200 Tryz.ntmps161 (by kernel_rfl) ?_
   intro A hA Q hQ
   simp
   refine hQ _ _ ?_
   clear hQ hA
   repeat (first | apply WK.seq | apply WK.block)
   refine WK.reg 300 Tryz.ntmps161 (by kernel_rfl) ?_
   intro A hA Q hQ
   simp
   refine RunQ.call rfl rfl rfl rfl (by rfl) (by simp (maxDischargeDepth := 120)) (hb1) (by simp) ?_
   refine RunQ.eval ?_
   simp
   refine hQ _ _ ?_
   clear hQ hA
   refine WK.c2 rfl (fun h => ?_) (fun h => ?_)
   · cases h
   repeat (apply WK.seq)
   refine WK.reg 400 Tryz.ntmps161 (by kernel_rfl) ?_
   intro A hA Q hQ
   simp
   refine hQ _ _ ?_
   clear hQ hA
   refine WK.c2 rfl (fun h => ?_) (fun h => ?_)
   · cases h
   cases k4 : Oxm.beyond o o.mask
   · rw [k4] at hb2 k3
     rw [Bool.false_or] at k3
     rw [k3] at hz
     repeat (apply WK.seq)
     refine WK.reg 500 Tryz.ntmps161 (by kernel_rfl) ?_
     intro A hA Q hQ
     have hg4 : (A[4]?).bind (·.dst) = some 19 := by rw [hA]; rfl
     simp [hg4]
     refine RunQ.call rfl rfl rfl rfl (by rfl) (by simp (maxDischargeDepth := 120) [hg4]) (hb2) (by simp [hg4]) ?_
     refine RunQ.eval ?_
     simp [hg4]
     refine RunQ.callG rfl rfl (by simp [hg4]) rfl (by rfl) (by simp (maxDischargeDepth := 120) [hg4]) (hz) (by simp [hg4]) ?_
     refine RunQ.eval ?_
     simp [hg4]
     refine hQ _ _ ?_
     clear hQ hA
     refine WK.c2 rfl (fun h => ?_) (fun h => ?_)
     · repeat (apply WK.seq)
       refine WK.reg 600 Tryz.ntmps161 (by kernel_rfl) ?_
       intro A hA Q hQ
       simp
       refine hQ _ _ ?_
       clear hQ hA
       refine WK.ret Tryz.func161 (by simp (maxDischargeDepth := 120) [Tryz.results161, e]) (by simp [e])
     · cases h
   · rw [k4] at hb2
     repeat (apply WK.seq)
     refine WK.reg 700 Tryz.ntmps161 (by kernel_rfl) ?_
     intro A hA Q hQ
     have hg4 : (A[4]?).bind (·.dst) = some 19 := by rw [hA]; rfl
     simp [hg4]
     refine RunQ.call rfl rfl rfl rfl (by rfl) (by simp (maxDischargeDepth := 120) [hg4]) (hb2) (by simp [hg4]) ?_
     refine RunQ.eval ?_
     simp [hg4]
     refine hQ _ _ ?_
     clear hQ hA
     refine WK.c2 rfl (fun h => ?_) (fun h => ?_)
     · repeat (apply WK.seq)
       refine WK.reg 800 Tryz.ntmps161 (by kernel_rfl) ?_
       intro A hA Q hQ
       simp
       refine hQ _ _ ?_
       clear hQ hA
       refine WK.ret Tryz.func161 (by simp (maxDischargeDepth := 120) [Tryz.results161, e]) (by simp [e])
     · cases h
 rw [Bool.or_eq_false_iff] at k3
 rw [k3.1] at hb2
 rw [k3.2] at hz
 cases k5 : (o.value.less o.mask).zero
 · have e : (Oxm.form o) = 5 := by unfold Oxm.form; rw [k1, k2, k3.1, k3.2, k5]; rfl
   rw [k5] at hz2
   refine FnP.intro Tryz.func161 rfl rfl fun G w => ?_
   repeat (apply WK.seq)
   refine WK.reg 100 Tryz.ntmps161 (by kernel_rfl) ?_
   intro A hA Q hQ
   simp [Oxm.enc, k2]
   refine hQ _ _ ?_
   clear hQ hA
   repeat (apply WK.seq)
   refine WK.ghost (Ghost.frzVar 1 rfl rfl) ?_
   refine WK.reg 200 Tryz.ntmps161 (by kernel_rfl) ?_
   intro A hA Q hQ
   simp
   refine hQ _ _ ?_
   clear hQ hA
   repeat (first | apply WK.seq | apply WK.block)
   refine WK.reg 300 Tryz.ntmps161 (by kernel_rfl) ?_
   intro A hA Q hQ
   simp
   refine RunQ.call rfl rfl rfl rfl (by rfl) (by simp (maxDischargeDepth := 120)) (hb1) (by simp) ?_
   refine RunQ.eval ?_
   simp
   refine hQ _ _ ?_
   clear hQ hA
   refine WK.c2 rfl (fun h => ?_) (fun h => ?_)
   · cases h
   repeat (apply WK.seq)
   refine WK.reg 400 Tryz.ntmps161 (by kernel_rfl) ?_
   intro A hA Q hQ
   simp
   refine hQ _ _ ?_
   clear hQ hA
   refine WK.c2 rfl (fun h => ?_) (fun h => ?_)
   · cases h
   repeat (apply WK.seq)
   refine WK.reg 500 Tryz.ntmps161 (by kernel_rfl) ?_
   intro A hA Q hQ
   have hg4 : (A[4]?).bind (·.dst) = some 19 := by rw [hA]; rfl
   simp [hg4]
   refine RunQ.call rfl rfl rfl rfl (by rfl) (by simp (maxDischargeDepth := 120) [hg4]) (hb2) (by simp [hg4]) ?_
   refine RunQ.eval ?_
   simp [hg4]
   refine RunQ.callG rfl rfl (by simp [hg4]) rfl (by rfl) (by simp (maxDischargeDepth := 120) [hg4]) (hz) (by simp [hg4]) ?_
   refine RunQ.eval ?_
   simp [hg4]
   refine hQ _ _ ?_
   clear hQ hA
   refine WK.c2 rfl (fun h => ?_) (fun h => ?_)
   · cases h
   repeat (apply WK.seq)
   refine WK.reg 600 Tryz.ntmps161 (by kernel_rfl) ?_
   intro A hA Q hQ
   simp
   refine RunQ.call rfl rfl rfl rfl (by rfl) (by simp (maxDischargeDepth := 120)) (hl) (by simp) ?_
   refine RunQ.eval ?_
   simp
   refine RunQ.call rfl rfl rfl rfl (by rfl) (by simp (maxDischargeDepth := 120)) (hz2) (by simp) ?_
   refine RunQ.eval ?_
   simp
   refine hQ _ _ ?_
   clear hQ hA
   refine WK.c2 rfl (fun h => ?_) (fun h => ?_)
   · repeat (apply WK.seq)
     refine WK.reg 700 Tryz.ntmps161 (by kernel_rfl) ?_
     intro A hA Q hQ
     simp
     refine hQ _ _ ?_
     clear hQ hA
     refine WK.ret Tryz.func161 (by simp (maxDischargeDepth := 120) [Tryz.results161, e]) (by simp [e])
   · cases h
 · have e : (Oxm.form o) = 0 := by unfold Oxm.form; rw [k1, k2, k3.1, k3.2, k5]; rfl
   rw [k5] at hz2
   refine FnP.intro Tryz.func161 rfl rfl fun G w => ?_
   repeat (apply WK.seq)
   refine WK.reg 100 Tryz.ntmps161 (by kernel_rfl) ?_
   intro A hA Q hQ
   simp [Oxm.enc, k2]
   refine hQ _ _ ?_
   clear hQ hA
   repeat (apply WK.seq)
   refine WK.ghost (Ghost.frzVar 1 rfl rfl) ?_
   refine WK.reg 200 Tryz.ntmps161 (by kernel_rfl) ?_
   intro A hA Q hQ
   simp
   refine hQ _ _ ?_
   clear hQ hA
   repeat (first | apply WK.seq | apply WK.block)
   refine WK.reg 300 Tryz.ntmps161 (by kernel_rfl) ?_
   intro A hA Q hQ
   simp
   refine RunQ.call rfl rfl rfl rfl (by rfl) (by simp (maxDischargeDepth := 120)) (hb1) (by simp) ?_
   refine RunQ.eval ?_
   simp
   refine hQ _ _ ?_
   clear hQ hA
   refine WK.c2 rfl (fun h => ?_) (fun h => ?_)
   · cases h
   repeat (apply WK.seq)
   refine WK.reg 400 Tryz.ntmps161 (by kernel_rfl) ?_
   intro A hA Q hQ
   simp
   refine hQ _ _ ?_
   clear hQ hA
   refine WK.c2 rfl (fun h => ?_) (fun h => ?_)
   · cases h
   repeat (apply WK.seq)
   refine WK.reg 500 Tryz.ntmps161 (by kernel_rfl) ?_
   intro A hA Q hQ
   have hg4 : (A[4]?).bind (·.dst) = some 19 := by rw [hA]; rfl
   simp [hg4]
   refine RunQ.call rfl rfl rfl rfl (by rfl) (by simp (maxDischargeDepth := 120) [hg4]) (hb2) (by simp [hg4]) ?_
   refine RunQ.eval ?_
   simp [hg4]
   refine RunQ.callG rfl rfl (by simp [hg4]) rfl (by rfl) (by simp (maxDischargeDepth := 120) [hg4]) (hz) (by simp [hg4]) ?_
   refine RunQ.eval ?_
   simp [hg4]
   refine hQ _ _ ?_
   clear hQ hA
   refine WK.c2 rfl (fun h => ?_) (fun h => ?_)
   · cases h
   repeat (apply WK.seq)
   refine WK.reg 600 Tryz.ntmps161 (by kernel_rfl) ?_
   intro A hA Q hQ
   simp
   refine RunQ.call rfl rfl rfl rfl (by rfl) (by simp (maxDischargeDepth := 120)) (hl) (by simp) ?_
   refine RunQ.eval ?_
   simp
   refine RunQ.call rfl rfl rfl rfl (by rfl) (by simp (maxDischargeDepth := 120)) (hz2) (by simp) ?_
   refine RunQ.eval ?_
   simp
   refine hQ _ _ ?_
   clear hQ hA
   refine WK.c2 rfl (fun h => ?_) (fun h => ?_)
   · cases h
   · repeat (first | apply WK.seq | apply WK.inBlock | apply WK.skip)
     refine WK.reg 700 Tryz.ntmps161 (by kernel_rfl) ?_
     intro A hA Q hQ
     simp
     refine hQ _ _ ?_
     clear hQ hA
     refine WK.ret Tryz.func161 (by simp (maxDischargeDepth := 120) [Tryz.results161, e]) (by simp [e])

set_option maxHeartbeats 4000000 in
theorem oright_c (o : Oxm) : FnP Tryz.prog 211 [.agg o.enc] (.bool (Oxm.right o)) := by
 have hf := oform_c o
 have hm := zero_c o.mask
 simp only [Oxm.enc, Wide.enc] at hf hm
 cases k1 : fRight o.field
 · have e : Oxm.right o = false := by unfold Oxm.right; rw [k1]; rfl
   refine FnP.intro Tryz.func211 rfl rfl fun G w => ?_
   repeat (apply WK.seq)
   refine WK.reg 100 Tryz.ntmps211 (by kernel_rfl) ?_
   intro A hA Q hQ
   simp [Oxm.enc]
   refine hQ _ _ ?_
   clear hQ hA
   repeat (apply WK.seq)
   refine WK.ghost (Ghost.frzVar 1 rfl rfl) ?_
   refine WK.reg 200 Tryz.ntmps211 (by kernel_rfl) ?_
   intro A hA Q hQ
   have hg4 : (A[4]?).bind (·.dst) = some 7 := by rw [hA]; rfl
   have hg7 : (A[7]?).bind (·.dst) = some 10 := by rw [hA]; rfl
   have hg14 : (A[14]?).bind (·.dst) = some 17 := by rw [hA]; rfl
   have hg18 : (A[18]?).bind (·.dst) = some 21 := by rw [hA]; rfl
   simp [hg4, hg7, hg14, hg18]
   refine RunQ.call rfl rfl rfl rfl (by rfl) (by simp (maxDischargeDepth := 120) [k1, hg4, hg7, hg14, hg18]) (fright_c o.field) (by simp [k1, hg4, hg7, hg14, hg18]) ?_
   refine RunQ.eval ?_
   simp [k1, hg4, hg7, hg14, hg18]
   refine hQ _ _ ?_
   clear hQ hA
   refine WK.c2 rfl (fun h => ?_) (fun h => ?_)
   · repeat (apply WK.seq)
     refine WK.reg 300 Tryz.ntmps211 (by kernel_rfl) ?_
     intro A hA Q hQ
     simp
     refine hQ _ _ ?_
     clear hQ hA
     refine WK.ret Tryz.func211 (by simp (maxDischargeDepth := 120) [Tryz.results211, e]) (by simp [e])
   · cases h
 cases k2 : o.masked
 · rw [k2] at hf
   cases k3 : o.mask.zero
   · have e : Oxm.right o = false := by unfold Oxm.right; rw [k1, k2, k3]; rfl
     rw [k3] at hm
     refine FnP.intro Tryz.func211 rfl rfl fun G w => ?_
     repeat (apply WK.seq)
     refine WK.reg 100 Tryz.ntmps211 (by kernel_rfl) ?_
     intro A hA Q hQ
     simp [Oxm.enc, k2]
     refine hQ _ _ ?_
     clear hQ hA
     repeat (apply WK.seq)
     refine WK.ghost (Ghost.frzVar 1 rfl rfl) ?_
     refine WK.reg 200 Tryz.ntmps211 (by kernel_rfl) ?_
     intro A hA Q hQ
     have hg4 : (A[4]?).bind (·.dst) = some 7 := by rw [hA]; rfl
     have hg7 : (A[7]?).bind (·.dst) = some 10 := by rw [hA]; rfl
     have hg14 : (A[14]?).bind (·.dst) = some 17 := by rw [hA]; rfl
     have hg18 : (A[18]?).bind (·.dst) = some 21 := by rw [hA]; rfl
     simp [hg4, hg7, hg14, hg18]
     refine RunQ.call rfl rfl rfl rfl (by rfl) (by simp (maxDischargeDepth := 120) [k1, hg4, hg7, hg14, hg18]) (fright_c o.field) (by simp [k1, hg4, hg7, hg14, hg18]) ?_
     refine RunQ.eval ?_
     simp [k1, hg4, hg7, hg14, hg18]
     refine RunQ.callG rfl rfl (by simp [hg14, hg18]) rfl (by rfl) (by simp (maxDischargeDepth := 120) [hg14, hg18]) (hm) (by simp [hg14, hg18]) ?_
     refine RunQ.eval ?_
     simp [hg14, hg18]
     refine hQ _ _ ?_
     clear hQ hA
     refine WK.c2 rfl (fun h => ?_) (fun h => ?_)
     · repeat (apply WK.seq)
       refine WK.reg 300 Tryz.ntmps211 (by kernel_rfl) ?_
       intro A hA Q hQ
       simp
       refine hQ _ _ ?_
       clear hQ hA
       refine WK.ret Tryz.func211 (by simp (maxDischargeDepth := 120) [Tryz.results211, e]) (by simp [e])
     · cases h
   · have e : Oxm.right o = (Oxm.form o == 0) := by unfold Oxm.right; rw [k1, k2, k3]; rfl
     rw [k3] at hm
     refine FnP.intro Tryz.func211 rfl rfl fun G w => ?_
     repeat (apply WK.seq)
     refine WK.reg 100 Tryz.ntmps211 (by kernel_rfl) ?_
     intro A hA Q hQ
     simp [Oxm.enc, k2]
     refine hQ _ _ ?_
     clear hQ hA
     repeat (apply WK.seq)
     refine WK.ghost (Ghost.frzVar 1 rfl rfl) ?_
     refine WK.reg 200 Tryz.ntmps211 (by kernel_rfl) ?_
     intro A hA Q hQ
     have hg4 : (A[4]?).bind (·.dst) = some 7 := by rw [hA]; rfl
     have hg7 : (A[7]?).bind (·.dst) = some 10 := by rw [hA]; rfl
     have hg14 : (A[14]?).bind (·.dst) = some 17 := by rw [hA]; rfl
     have hg18 : (A[18]?).bind (·.dst) = some 21 := by rw [hA]; rfl
     simp [hg4, hg7, hg14, hg18]
     refine RunQ.call rfl rfl rfl rfl (by rfl) (by simp (maxDischargeDepth := 120) [k1, hg4, hg7, hg14, hg18]) (fright_c o.field) (by simp [k1, hg4, hg7, hg14, hg18]) ?_
     refine RunQ.eval ?_
     simp [k1, hg4, hg7, hg14, hg18]
     refine RunQ.callG rfl rfl (by simp [hg14, hg18]) rfl (by rfl) (by simp (maxDischargeDepth := 120) [hg14, hg18]) (hm) (by simp [hg14, hg18]) ?_
     refine RunQ.eval ?_
     simp [hg14, hg18]
     refine hQ _ _ ?_
     clear hQ hA
     refine WK.c2 rfl (fun h => ?_) (fun h => ?_)
     · cases h
     repeat (first | apply WK.seq | apply WK.skip)
     refine WK.reg 300 Tryz.ntmps211 (by kernel_rfl) ?_
     intro A hA Q hQ
     simp
     refine RunQ.call rfl rfl rfl rfl (by rfl) (by simp (maxDischargeDepth := 120)) (hf) (by simp) ?_
     refine RunQ.eval ?_
     simp
     refine hQ _ _ ?_
     clear hQ hA
     refine WK.ret Tryz.func211 (by simp (maxDischargeDepth := 120) [Tryz.results211, e]) (by simp [e])
 · rw [k2] at hf
   cases k3 : fMasks o.field
   · have e : Oxm.right o = false := by unfold Oxm.right; rw [k1, k2, k3]; rfl
     refine FnP.intro Tryz.func211 rfl rfl fun G w => ?_
     repeat (apply WK.seq)
     refine WK.reg 100 Tryz.ntmps211 (by kernel_rfl) ?_
     intro A hA Q hQ
     simp [Oxm.enc, k2]
     refine hQ _ _ ?_
     clear hQ hA
     repeat (apply WK.seq)
     refine WK.ghost (Ghost.frzVar 1 rfl rfl) ?_
     refine WK.reg 200 Tryz.ntmps211 (by kernel_rfl) ?_
     intro A hA Q hQ
     have hg4 : (A[4]?).bind (·.dst) = some 7 := by rw [hA]; rfl
     have hg7 : (A[7]?).bind (·.dst) = some 10 := by rw [hA]; rfl
     have hg14 : (A[14]?).bind (·.dst) = some 17 := by rw [hA]; rfl
     have hg18 : (A[18]?).bind (·.dst) = some 21 := by rw [hA]; rfl
     simp [hg4, hg7, hg14, hg18]
     refine RunQ.call rfl rfl rfl rfl (by rfl) (by simp (maxDischargeDepth := 120) [k1, hg4, hg7, hg14, hg18]) (fright_c o.field) (by simp [k1, hg4, hg7, hg14, hg18]) ?_
     refine RunQ.eval ?_
     simp [k1, hg4, hg7, hg14, hg18]
     refine RunQ.callG rfl rfl (by simp [k3, hg4, hg7, hg14, hg18]) rfl (by rfl) (by simp (maxDischargeDepth := 120) [k3, hg4, hg7, hg14, hg18]) (fmasks_c o.field) (by simp [k3, hg4, hg7, hg14, hg18]) ?_
     refine RunQ.eval ?_
     simp [k3, hg4, hg7, hg14, hg18]
     refine hQ _ _ ?_
     clear hQ hA
     refine WK.c2 rfl (fun h => ?_) (fun h => ?_)
     · repeat (apply WK.seq)
       refine WK.reg 300 Tryz.ntmps211 (by kernel_rfl) ?_
       intro A hA Q hQ
       simp
       refine hQ _ _ ?_
       clear hQ hA
       refine WK.ret Tryz.func211 (by simp (maxDischargeDepth := 120) [Tryz.results211, e]) (by simp [e])
     · cases h
   · have e : Oxm.right o = (Oxm.form o == 0) := by unfold Oxm.right; rw [k1, k2, k3]; rfl
     refine FnP.intro Tryz.func211 rfl rfl fun G w => ?_
     repeat (apply WK.seq)
     refine WK.reg 100 Tryz.ntmps211 (by kernel_rfl) ?_
     intro A hA Q hQ
     simp [Oxm.enc, k2]
     refine hQ _ _ ?_
     clear hQ hA
     repeat (apply WK.seq)
     refine WK.ghost (Ghost.frzVar 1 rfl rfl) ?_
     refine WK.reg 200 Tryz.ntmps211 (by kernel_rfl) ?_
     intro A hA Q hQ
     have hg4 : (A[4]?).bind (·.dst) = some 7 := by rw [hA]; rfl
     have hg7 : (A[7]?).bind (·.dst) = some 10 := by rw [hA]; rfl
     have hg14 : (A[14]?).bind (·.dst) = some 17 := by rw [hA]; rfl
     have hg18 : (A[18]?).bind (·.dst) = some 21 := by rw [hA]; rfl
     simp [hg4, hg7, hg14, hg18]
     refine RunQ.call rfl rfl rfl rfl (by rfl) (by simp (maxDischargeDepth := 120) [k1, hg4, hg7, hg14, hg18]) (fright_c o.field) (by simp [k1, hg4, hg7, hg14, hg18]) ?_
     refine RunQ.eval ?_
     simp [k1, hg4, hg7, hg14, hg18]
     refine RunQ.callG rfl rfl (by simp [k3, hg4, hg7, hg14, hg18]) rfl (by rfl) (by simp (maxDischargeDepth := 120) [k3, hg4, hg7, hg14, hg18]) (fmasks_c o.field) (by simp [k3, hg4, hg7, hg14, hg18]) ?_
     refine RunQ.eval ?_
     simp [k3, hg4, hg7, hg14, hg18]
     refine hQ _ _ ?_
     clear hQ hA
     refine WK.c2 rfl (fun h => ?_) (fun h => ?_)
     · cases h
     repeat (first | apply WK.seq | apply WK.skip)
     refine WK.reg 300 Tryz.ntmps211 (by kernel_rfl) ?_
     intro A hA Q hQ
     simp
     refine RunQ.call rfl rfl rfl rfl (by rfl) (by simp (maxDischargeDepth := 120)) (hf) (by simp) ?_
     refine RunQ.eval ?_
     simp
     refine hQ _ _ ?_
     clear hQ hA
     refine WK.ret Tryz.func211 (by simp (maxDischargeDepth := 120) [Tryz.results211, e]) (by simp [e])
theorem obad_c (n : Int) : FnP Tryz.prog 159 [.int .i64 n] (.agg [.bool true, .int .i64 4, .int .i64 n]) := by
 refine FnP.intro Tryz.func159 rfl rfl fun G w => ?_
 repeat (apply WK.seq)
 refine WK.reg 100 Tryz.ntmps159 (by kernel_rfl) ?_
 intro A hA Q hQ
 simp
 refine hQ _ _ ?_
 clear hQ hA
 repeat (apply WK.seq)
 refine WK.reg 200 Tryz.ntmps159 (by kernel_rfl) ?_
 intro A hA Q hQ
 simp
 refine hQ _ _ ?_
 clear hQ hA
 refine WK.ret Tryz.func159 (by simp (maxDischargeDepth := 120) [Tryz.results159]) (by simp)
set_option maxHeartbeats 4000000 in
theorem roright_c (o : Oxm) : FnP Tryz.prog 119 [.agg o.enc] (.bool (Oxm.right o)) := by
 have hbits := (fRow_ok o.field).2
 have hlow := rlow2_c (fBits o.field) (by unfold fBits; omega)
 obtain ⟨A0, hA0⟩ : ∃ A0, A0 = lowW (fBits o.field) := ⟨_, rfl⟩
 rw [← hA0] at hlow
 have hm := rzero_c o.mask
 have hl1 := rless_c o.value A0
 have hz1 := rzero_c (o.value.less A0)
 have hl2 := rless_c o.mask A0
 have hz2 := rzero_c (o.mask.less A0)
 have hl3 := rless_c o.value o.mask
 have hz3 := rzero_c (o.value.less o.mask)
 simp only [Wide.enc] at hm hl1 hl2 hl3 hlow hz1 hz2 hz3
 have eb : ∀ w0 : Wide, Oxm.beyond o w0 = !(w0.less A0).zero := fun w0 => by unfold Oxm.beyond; rw [hA0]
 cases k1 : fRight o.field
 · have e : Oxm.right o = false := by unfold Oxm.right; rw [k1]; rfl
   refine FnP.intro Tryz.func119 rfl rfl fun G w => ?_
   repeat (apply WK.seq)
   refine WK.reg 100 Tryz.ntmps119 (by kernel_rfl) ?_
   intro A hA Q hQ
   simp [Oxm.enc]
   refine hQ _ _ ?_
   clear hQ hA
   repeat (apply WK.seq)
   refine WK.ghost (Ghost.frzVar 1 rfl rfl) ?_
   refine WK.reg 200 Tryz.ntmps119 (by kernel_rfl) ?_
   intro A hA Q hQ
   simp
   refine RunQ.call rfl rfl rfl rfl (by rfl) (by simp (maxDischargeDepth := 120) [k1]) (rfright_c o.field) (by simp [k1]) ?_
   refine RunQ.eval ?_
   simp [k1]
   refine hQ _ _ ?_
   clear hQ hA
   refine WK.c2 rfl (fun h => ?_) (fun h => ?_)
   · repeat (apply WK.seq)
     refine WK.reg 300 Tryz.ntmps119 (by kernel_rfl) ?_
     intro A hA Q hQ
     simp
     refine hQ _ _ ?_
     clear hQ hA
     refine WK.ret Tryz.func119 (by simp (maxDischargeDepth := 120) [Tryz.results119, e]) (by simp [e])
   · cases h
 cases k4 : (o.value.less A0).zero
 · rw [k4] at hz1
   have e : Oxm.right o = false := by unfold Oxm.right Oxm.form; rw [eb, k4]; simp
   refine FnP.intro Tryz.func119 rfl rfl fun G w => ?_
   repeat (apply WK.seq)
   refine WK.reg 100 Tryz.ntmps119 (by kernel_rfl) ?_
   intro A hA Q hQ
   simp [Oxm.enc]
   refine hQ _ _ ?_
   clear hQ hA
   repeat (apply WK.seq)
   refine WK.ghost (Ghost.frzVar 1 rfl rfl) ?_
   refine WK.reg 200 Tryz.ntmps119 (by kernel_rfl) ?_
   intro A hA Q hQ
   simp
   refine RunQ.call rfl rfl rfl rfl (by rfl) (by simp (maxDischargeDepth := 120) [k1]) (rfright_c o.field) (by simp [k1]) ?_
   refine RunQ.eval ?_
   simp [k1]
   refine hQ _ _ ?_
   clear hQ hA
   refine WK.c2 rfl (fun h => ?_) (fun h => ?_)
   · cases h
   repeat (first | apply WK.seq | apply WK.skip)
   refine WK.reg 300 Tryz.ntmps119 (by kernel_rfl) ?_
   intro A hA Q hQ
   simp
   refine RunQ.call rfl rfl rfl rfl (by rfl) (by simp (maxDischargeDepth := 120)) (rfbits_c o.field) (by simp) ?_
   refine RunQ.eval ?_
   simp
   refine RunQ.call rfl rfl rfl rfl (by rfl) (by simp (maxDischargeDepth := 120)) (hlow) (by simp) ?_
   refine RunQ.eval ?_
   simp
   refine hQ _ _ ?_
   clear hQ hA
   repeat (apply WK.seq)
   refine WK.ghost (Ghost.frzVar 3 rfl rfl) ?_
   refine WK.reg 400 Tryz.ntmps119 (by kernel_rfl) ?_
   intro A hA Q hQ
   simp
   refine RunQ.call rfl rfl rfl rfl (by rfl) (by simp (maxDischargeDepth := 120)) (hl1) (by simp) ?_
   refine RunQ.eval ?_
   simp
   refine RunQ.call rfl rfl rfl rfl (by rfl) (by simp (maxDischargeDepth := 120)) (hz1) (by simp) ?_
   refine RunQ.eval ?_
   simp
   refine hQ _ _ ?_
   clear hQ hA
   refine WK.c2 rfl (fun h => ?_) (fun h => ?_)
   · repeat (apply WK.seq)
     refine WK.reg 500 Tryz.ntmps119 (by kernel_rfl) ?_
     intro A hA Q hQ
     simp
     refine hQ _ _ ?_
     clear hQ hA
     refine WK.ret Tryz.func119 (by simp (maxDischargeDepth := 120) [Tryz.results119, e]) (by simp [e])
   · cases h
 rw [k4] at hz1
 cases k2 : o.masked
 · have e : Oxm.right o = o.mask.zero := by unfold Oxm.right Oxm.form; rw [eb, k1, k2, k4]; cases o.mask.zero <;> rfl
   refine FnP.intro Tryz.func119 rfl rfl fun G w => ?_
   repeat (apply WK.seq)
   refine WK.reg 100 Tryz.ntmps119 (by kernel_rfl) ?_
   intro A hA Q hQ
   simp [Oxm.enc, k2]
   refine hQ _ _ ?_
   clear hQ hA
   repeat (apply WK.seq)
   refine WK.ghost (Ghost.frzVar 1 rfl rfl) ?_
   refine WK.reg 200 Tryz.ntmps119 (by kernel_rfl) ?_
   intro A hA Q hQ
   simp
   refine RunQ.call rfl rfl rfl rfl (by rfl) (by simp (maxDischargeDepth := 120) [k1]) (rfright_c o.field) (by simp [k1]) ?_
   refine RunQ.eval ?_
   simp [k1]
   refine hQ _ _ ?_
   clear hQ hA
   refine WK.c2 rfl (fun h => ?_) (fun h => ?_)
   · cases h
   repeat (first | apply WK.seq | apply WK.skip)
   refine WK.reg 300 Tryz.ntmps119 (by kernel_rfl) ?_
   intro A hA Q hQ
   simp
   refine RunQ.call rfl rfl rfl rfl (by rfl) (by simp (maxDischargeDepth := 120)) (rfbits_c o.field) (by simp) ?_
   refine RunQ.eval ?_
   simp
   refine RunQ.call rfl rfl rfl rfl (by rfl) (by simp (maxDischargeDepth := 120)) (hlow) (by simp) ?_
   refine RunQ.eval ?_
   simp
   refine hQ _ _ ?_
   clear hQ hA
   repeat (apply WK.seq)
   refine WK.ghost (Ghost.frzVar 3 rfl rfl) ?_
   refine WK.reg 400 Tryz.ntmps119 (by kernel_rfl) ?_
   intro A hA Q hQ
   simp
   refine RunQ.call rfl rfl rfl rfl (by rfl) (by simp (maxDischargeDepth := 120)) (hl1) (by simp) ?_
   refine RunQ.eval ?_
   simp
   refine RunQ.call rfl rfl rfl rfl (by rfl) (by simp (maxDischargeDepth := 120)) (hz1) (by simp) ?_
   refine RunQ.eval ?_
   simp
   refine hQ _ _ ?_
   clear hQ hA
   refine WK.c2 rfl (fun h => ?_) (fun h => ?_)
   · cases h
   repeat (first | apply WK.seq | apply WK.skip)
   refine WK.reg 500 Tryz.ntmps119 (by kernel_rfl) ?_
   intro A hA Q hQ
   simp
   refine hQ _ _ ?_
   clear hQ hA
   refine WK.c2 rfl (fun h => ?_) (fun h => ?_)
   · repeat (apply WK.seq)
     refine WK.reg 600 Tryz.ntmps119 (by kernel_rfl) ?_
     intro A hA Q hQ
     simp
     refine RunQ.call rfl rfl rfl rfl (by rfl) (by simp (maxDischargeDepth := 120)) (hm) (by simp) ?_
     refine RunQ.eval ?_
     simp
     refine hQ _ _ ?_
     clear hQ hA
     refine WK.ret Tryz.func119 (by simp (maxDischargeDepth := 120) [Tryz.results119, e]) (by simp [e])
   · cases h
 · have e : Oxm.right o = (fMasks o.field && (!o.mask.zero && ((o.mask.less A0).zero && (o.value.less o.mask).zero))) := by
     unfold Oxm.right Oxm.form; rw [eb, eb, k1, k2, k4]
     cases fMasks o.field <;> cases o.mask.zero <;> cases (o.mask.less A0).zero <;> cases (o.value.less o.mask).zero <;> rfl
   refine FnP.intro Tryz.func119 rfl rfl fun G w => ?_
   repeat (apply WK.seq)
   refine WK.reg 100 Tryz.ntmps119 (by kernel_rfl) ?_
   intro A hA Q hQ
   simp [Oxm.enc, k2]
   refine hQ _ _ ?_
   clear hQ hA
   repeat (apply WK.seq)
   refine WK.ghost (Ghost.frzVar 1 rfl rfl) ?_
   refine WK.reg 200 Tryz.ntmps119 (by kernel_rfl) ?_
   intro A hA Q hQ
   simp
   refine RunQ.call rfl rfl rfl rfl (by rfl) (by simp (maxDischargeDepth := 120) [k1]) (rfright_c o.field) (by simp [k1]) ?_
   refine RunQ.eval ?_
   simp [k1]
   refine hQ _ _ ?_
   clear hQ hA
   refine WK.c2 rfl (fun h => ?_) (fun h => ?_)
   · cases h
   repeat (first | apply WK.seq | apply WK.skip)
   refine WK.reg 300 Tryz.ntmps119 (by kernel_rfl) ?_
   intro A hA Q hQ
   simp
   refine RunQ.call rfl rfl rfl rfl (by rfl) (by simp (maxDischargeDepth := 120)) (rfbits_c o.field) (by simp) ?_
   refine RunQ.eval ?_
   simp
   refine RunQ.call rfl rfl rfl rfl (by rfl) (by simp (maxDischargeDepth := 120)) (hlow) (by simp) ?_
   refine RunQ.eval ?_
   simp
   refine hQ _ _ ?_
   clear hQ hA
   repeat (apply WK.seq)
   refine WK.ghost (Ghost.frzVar 3 rfl rfl) ?_
   refine WK.reg 400 Tryz.ntmps119 (by kernel_rfl) ?_
   intro A hA Q hQ
   simp
   refine RunQ.call rfl rfl rfl rfl (by rfl) (by simp (maxDischargeDepth := 120)) (hl1) (by simp) ?_
   refine RunQ.eval ?_
   simp
   refine RunQ.call rfl rfl rfl rfl (by rfl) (by simp (maxDischargeDepth := 120)) (hz1) (by simp) ?_
   refine RunQ.eval ?_
   simp
   refine hQ _ _ ?_
   clear hQ hA
   refine WK.c2 rfl (fun h => ?_) (fun h => ?_)
   · cases h
   repeat (first | apply WK.seq | apply WK.skip)
   refine WK.reg 500 Tryz.ntmps119 (by kernel_rfl) ?_
   intro A hA Q hQ
   simp
   refine hQ _ _ ?_
   clear hQ hA
   refine WK.c2 rfl (fun h => ?_) (fun h => ?_)
   · cases h
   cases m1 : fMasks o.field
   · rw [m1, Bool.false_and] at e
     repeat (first | apply WK.seq | apply WK.skip)
     refine WK.reg 600 Tryz.ntmps119 (by kernel_rfl) ?_
     intro A hA Q hQ
     have hg3 : (A[3]?).bind (·.dst) = some 27 := by rw [hA]; rfl
     have hg9 : (A[9]?).bind (·.dst) = some 33 := by rw [hA]; rfl
     have hg16 : (A[16]?).bind (·.dst) = some 40 := by rw [hA]; rfl
     simp [hg3, hg9, hg16]
     refine RunQ.call rfl rfl rfl rfl (by rfl) (by simp (maxDischargeDepth := 120) [m1, hg3, hg9, hg16]) (rfmasks_c o.field) (by simp [m1, hg3, hg9, hg16]) ?_
     refine RunQ.eval ?_
     simp [m1, hg3, hg9, hg16]
     refine hQ _ _ ?_
     clear hQ hA
     refine WK.ret Tryz.func119 (by simp (maxDischargeDepth := 120) [Tryz.results119, e]) (by simp [e])
   rw [m1, Bool.true_and] at e
   cases m2 : o.mask.zero
   case true =>
     rw [m2] at hm e
     repeat (first | apply WK.seq | apply WK.skip)
     refine WK.reg 700 Tryz.ntmps119 (by kernel_rfl) ?_
     intro A hA Q hQ
     have hg3 : (A[3]?).bind (·.dst) = some 27 := by rw [hA]; rfl
     have hg9 : (A[9]?).bind (·.dst) = some 33 := by rw [hA]; rfl
     have hg16 : (A[16]?).bind (·.dst) = some 40 := by rw [hA]; rfl
     simp [hg3, hg9, hg16]
     refine RunQ.call rfl rfl rfl rfl (by rfl) (by simp (maxDischargeDepth := 120) [m1, hg3, hg9, hg16]) (rfmasks_c o.field) (by simp [m1, hg3, hg9, hg16]) ?_
     refine RunQ.eval ?_
     simp [m1, hg3, hg9, hg16]
     refine RunQ.callG rfl rfl (by simp [hg3, hg9, hg16]) rfl (by rfl) (by simp (maxDischargeDepth := 120) [hg3, hg9, hg16]) (hm) (by simp [hg3, hg9, hg16]) ?_
     refine RunQ.eval ?_
     simp [hg3, hg9, hg16]
     refine hQ _ _ ?_
     clear hQ hA
     refine WK.ret Tryz.func119 (by simp (maxDischargeDepth := 120) [Tryz.results119, e]) (by simp [e])
   rw [m2] at hm e
   rw [Bool.not_false, Bool.true_and] at e
   cases m3 : (o.mask.less A0).zero
   · rw [m3] at hz2 e
     rw [Bool.false_and] at e
     repeat (first | apply WK.seq | apply WK.skip)
     refine WK.reg 800 Tryz.ntmps119 (by kernel_rfl) ?_
     intro A hA Q hQ
     have hg3 : (A[3]?).bind (·.dst) = some 27 := by rw [hA]; rfl
     have hg9 : (A[9]?).bind (·.dst) = some 33 := by rw [hA]; rfl
     have hg16 : (A[16]?).bind (·.dst) = some 40 := by rw [hA]; rfl
     simp [hg3, hg9, hg16]
     refine RunQ.call rfl rfl rfl rfl (by rfl) (by simp (maxDischargeDepth := 120) [m1, hg3, hg9, hg16]) (rfmasks_c o.field) (by simp [m1, hg3, hg9, hg16]) ?_
     refine RunQ.eval ?_
     simp [m1, hg3, hg9, hg16]
     refine RunQ.callG rfl rfl (by simp [hg3, hg9, hg16]) rfl (by rfl) (by simp (maxDischargeDepth := 120) [hg3, hg9, hg16]) (hm) (by simp [hg3, hg9, hg16]) ?_
     refine RunQ.eval ?_
     simp [hg3, hg9, hg16]
     refine RunQ.callG rfl rfl (by simp [hg9, hg16]) rfl (by rfl) (by simp (maxDischargeDepth := 120) [hg9, hg16]) (hl2) (by simp [hg9, hg16]) ?_
     refine RunQ.eval ?_
     simp [hg9, hg16]
     refine RunQ.callG rfl rfl (by simp [hg9, hg16]) rfl (by rfl) (by simp (maxDischargeDepth := 120) [hg9, hg16]) (hz2) (by simp [hg9, hg16]) ?_
     refine RunQ.eval ?_
     simp [hg9, hg16]
     refine hQ _ _ ?_
     clear hQ hA
     refine WK.ret Tryz.func119 (by simp (maxDischargeDepth := 120) [Tryz.results119, e]) (by simp [e])
   · rw [m3] at hz2 e
     rw [Bool.true_and] at e
     repeat (first | apply WK.seq | apply WK.skip)
     refine WK.reg 900 Tryz.ntmps119 (by kernel_rfl) ?_
     intro A hA Q hQ
     have hg3 : (A[3]?).bind (·.dst) = some 27 := by rw [hA]; rfl
     have hg9 : (A[9]?).bind (·.dst) = some 33 := by rw [hA]; rfl
     have hg16 : (A[16]?).bind (·.dst) = some 40 := by rw [hA]; rfl
     simp [hg3, hg9, hg16]
     refine RunQ.call rfl rfl rfl rfl (by rfl) (by simp (maxDischargeDepth := 120) [m1, hg3, hg9, hg16]) (rfmasks_c o.field) (by simp [m1, hg3, hg9, hg16]) ?_
     refine RunQ.eval ?_
     simp [m1, hg3, hg9, hg16]
     refine RunQ.callG rfl rfl (by simp [hg3, hg9, hg16]) rfl (by rfl) (by simp (maxDischargeDepth := 120) [hg3, hg9, hg16]) (hm) (by simp [hg3, hg9, hg16]) ?_
     refine RunQ.eval ?_
     simp [hg3, hg9, hg16]
     refine RunQ.callG rfl rfl (by simp [hg9, hg16]) rfl (by rfl) (by simp (maxDischargeDepth := 120) [hg9, hg16]) (hl2) (by simp [hg9, hg16]) ?_
     refine RunQ.eval ?_
     simp [hg9, hg16]
     refine RunQ.callG rfl rfl (by simp [hg9, hg16]) rfl (by rfl) (by simp (maxDischargeDepth := 120) [hg9, hg16]) (hz2) (by simp [hg9, hg16]) ?_
     refine RunQ.eval ?_
     simp [hg9, hg16]
     refine RunQ.callG rfl rfl (by simp [hg16]) rfl (by rfl) (by simp (maxDischargeDepth := 120) [hg16]) (hl3) (by simp [hg16]) ?_
     refine RunQ.eval ?_
     simp [hg16]
     refine RunQ.callG rfl rfl (by simp [hg16]) rfl (by rfl) (by simp (maxDischargeDepth := 120) [hg16]) (hz3) (by simp [hg16]) ?_
     refine RunQ.eval ?_
     simp [hg16]
     refine hQ _ _ ?_
     clear hQ hA
     refine WK.ret Tryz.func119 (by simp (maxDischargeDepth := 120) [Tryz.results119, e]) (by simp [e])
end Go.Proofs.YtcccfbjkcahgfaaGreat
