/- Bytes: the reference's numbers, and numbers got. -/
import Derived.Test.YtmhapglejjehbaaGreatAf
import Derived.Test.YtmhapglejjehbaaGreatWk2
set_option linter.all false
set_option linter.unnecessarySimpa false
namespace Go.Proofs.YtmhapglejjehbaaGreat
open Go Go.AI Go.Proofs
theorem rright_c (n : Int) (s : Nat) (hs : Sz s) : FnP Tryz.prog 99 [.int .i64 n, .int .i64 s] (.bool (numOk n s)) := by
 cases k : decide (0 ≤ n)
 · rcases hs with rfl | rfl | rfl
   · refine FnP.i Tryz.func99 rfl rfl fun G w => ?_
     repeat apply WK.s
     refine WK.G 100 Tryz.ntmps99 ?_
     intro A hA Q hQ
     simp
     apply hQ
     clear hQ hA
     repeat apply WK.s
     refine WK.G 200 Tryz.ntmps99 ?_
     intro A hA Q hQ
     simp
     apply hQ
     clear hQ hA
     repeat (first | apply WK.s | apply WK.b)
     refine WK.G 300 Tryz.ntmps99 ?_
     intro A hA Q hQ
     simp
     apply hQ
     clear hQ hA
     refine WK.c2 rfl (fun h => ?_) (fun h => ?_)
     · repeat apply WK.s
       refine WK.G 400 Tryz.ntmps99 ?_
       intro A hA Q hQ
       have hg2 : (A[2]?).bind (·.dst) = some 10 := by rw [hA]; rfl
       simp [k, hg2]
       apply hQ
       clear hQ hA
       refine WK.t Tryz.func99 (by simp (config := zd) [Tryz.results99, numOk, k]) (by simp [numOk, k])
     · cases h
   · refine FnP.i Tryz.func99 rfl rfl fun G w => ?_
     repeat apply WK.s
     refine WK.G 100 Tryz.ntmps99 ?_
     intro A hA Q hQ
     simp
     apply hQ
     clear hQ hA
     repeat apply WK.s
     refine WK.G 200 Tryz.ntmps99 ?_
     intro A hA Q hQ
     simp
     apply hQ
     clear hQ hA
     repeat (first | apply WK.s | apply WK.b)
     refine WK.G 300 Tryz.ntmps99 ?_
     intro A hA Q hQ
     simp
     apply hQ
     clear hQ hA
     refine WK.c2 rfl (fun h => ?_) (fun h => ?_)
     · cases h
     repeat apply WK.s
     refine WK.G 400 Tryz.ntmps99 ?_
     intro A hA Q hQ
     simp
     apply hQ
     clear hQ hA
     refine WK.c2 rfl (fun h => ?_) (fun h => ?_)
     · repeat apply WK.s
       refine WK.G 500 Tryz.ntmps99 ?_
       intro A hA Q hQ
       have hg2 : (A[2]?).bind (·.dst) = some 18 := by rw [hA]; rfl
       simp [k, hg2]
       apply hQ
       clear hQ hA
       refine WK.t Tryz.func99 (by simp (config := zd) [Tryz.results99, numOk, k]) (by simp [numOk, k])
     · cases h
   · refine FnP.i Tryz.func99 rfl rfl fun G w => ?_
     repeat apply WK.s
     refine WK.G 100 Tryz.ntmps99 ?_
     intro A hA Q hQ
     simp
     apply hQ
     clear hQ hA
     repeat apply WK.s
     refine WK.G 200 Tryz.ntmps99 ?_
     intro A hA Q hQ
     simp
     apply hQ
     clear hQ hA
     repeat (first | apply WK.s | apply WK.b)
     refine WK.G 300 Tryz.ntmps99 ?_
     intro A hA Q hQ
     simp
     apply hQ
     clear hQ hA
     refine WK.c2 rfl (fun h => ?_) (fun h => ?_)
     · cases h
     repeat apply WK.s
     refine WK.G 400 Tryz.ntmps99 ?_
     intro A hA Q hQ
     simp
     apply hQ
     clear hQ hA
     refine WK.c2 rfl (fun h => ?_) (fun h => ?_)
     · cases h
     repeat apply WK.s
     refine WK.G 500 Tryz.ntmps99 ?_
     intro A hA Q hQ
     simp
     apply hQ
     clear hQ hA
     refine WK.c2 rfl (fun h => ?_) (fun h => ?_)
     · repeat apply WK.s
       refine WK.G 600 Tryz.ntmps99 ?_
       intro A hA Q hQ
       have hg2 : (A[2]?).bind (·.dst) = some 26 := by rw [hA]; rfl
       simp [k, hg2]
       apply hQ
       clear hQ hA
       refine WK.t Tryz.func99 (by simp (config := zd) [Tryz.results99, numOk, k]) (by simp [numOk, k])
     · cases h
 · rcases hs with rfl | rfl | rfl
   · have e : decide (n ≤ 255) = decide (n < 256 ^ 1) := decide_eq_decide.2 (by omega)
     refine FnP.i Tryz.func99 rfl rfl fun G w => ?_
     repeat apply WK.s
     refine WK.G 100 Tryz.ntmps99 ?_
     intro A hA Q hQ
     simp
     apply hQ
     clear hQ hA
     repeat apply WK.s
     refine WK.G 200 Tryz.ntmps99 ?_
     intro A hA Q hQ
     simp
     apply hQ
     clear hQ hA
     repeat (first | apply WK.s | apply WK.b)
     refine WK.G 300 Tryz.ntmps99 ?_
     intro A hA Q hQ
     simp
     apply hQ
     clear hQ hA
     refine WK.c2 rfl (fun h => ?_) (fun h => ?_)
     · repeat apply WK.s
       refine WK.G 400 Tryz.ntmps99 ?_
       intro A hA Q hQ
       have hg2 : (A[2]?).bind (·.dst) = some 10 := by rw [hA]; rfl
       simp [k, hg2]
       apply hQ
       clear hQ hA
       refine WK.t Tryz.func99 (by simp (config := zd) [Tryz.results99, numOk, k, e]) (by simp [numOk, k, e])
     · cases h
   · have e : decide (n ≤ 65535) = decide (n < 256 ^ 2) := decide_eq_decide.2 (by omega)
     refine FnP.i Tryz.func99 rfl rfl fun G w => ?_
     repeat apply WK.s
     refine WK.G 100 Tryz.ntmps99 ?_
     intro A hA Q hQ
     simp
     apply hQ
     clear hQ hA
     repeat apply WK.s
     refine WK.G 200 Tryz.ntmps99 ?_
     intro A hA Q hQ
     simp
     apply hQ
     clear hQ hA
     repeat (first | apply WK.s | apply WK.b)
     refine WK.G 300 Tryz.ntmps99 ?_
     intro A hA Q hQ
     simp
     apply hQ
     clear hQ hA
     refine WK.c2 rfl (fun h => ?_) (fun h => ?_)
     · cases h
     repeat apply WK.s
     refine WK.G 400 Tryz.ntmps99 ?_
     intro A hA Q hQ
     simp
     apply hQ
     clear hQ hA
     refine WK.c2 rfl (fun h => ?_) (fun h => ?_)
     · repeat apply WK.s
       refine WK.G 500 Tryz.ntmps99 ?_
       intro A hA Q hQ
       have hg2 : (A[2]?).bind (·.dst) = some 18 := by rw [hA]; rfl
       simp [k, hg2]
       apply hQ
       clear hQ hA
       refine WK.t Tryz.func99 (by simp (config := zd) [Tryz.results99, numOk, k, e]) (by simp [numOk, k, e])
     · cases h
   · have e : decide (n ≤ 4294967295) = decide (n < 256 ^ 4) := decide_eq_decide.2 (by omega)
     refine FnP.i Tryz.func99 rfl rfl fun G w => ?_
     repeat apply WK.s
     refine WK.G 100 Tryz.ntmps99 ?_
     intro A hA Q hQ
     simp
     apply hQ
     clear hQ hA
     repeat apply WK.s
     refine WK.G 200 Tryz.ntmps99 ?_
     intro A hA Q hQ
     simp
     apply hQ
     clear hQ hA
     repeat (first | apply WK.s | apply WK.b)
     refine WK.G 300 Tryz.ntmps99 ?_
     intro A hA Q hQ
     simp
     apply hQ
     clear hQ hA
     refine WK.c2 rfl (fun h => ?_) (fun h => ?_)
     · cases h
     repeat apply WK.s
     refine WK.G 400 Tryz.ntmps99 ?_
     intro A hA Q hQ
     simp
     apply hQ
     clear hQ hA
     refine WK.c2 rfl (fun h => ?_) (fun h => ?_)
     · cases h
     repeat apply WK.s
     refine WK.G 500 Tryz.ntmps99 ?_
     intro A hA Q hQ
     simp
     apply hQ
     clear hQ hA
     refine WK.c2 rfl (fun h => ?_) (fun h => ?_)
     · repeat apply WK.s
       refine WK.G 600 Tryz.ntmps99 ?_
       intro A hA Q hQ
       have hg2 : (A[2]?).bind (·.dst) = some 26 := by rw [hA]; rfl
       simp [k, hg2]
       apply hQ
       clear hQ hA
       refine WK.t Tryz.func99 (by simp (config := zd) [Tryz.results99, numOk, k, e]) (by simp [numOk, k, e])
     · cases h
theorem beN_get (n : Int) (s t : Nat) (h : t < s) : (beN n s).take (t + 1) = (beN n s).take t ++ [BitVec.ofInt 8 (n / 2 ^ (8 * (s - 1 - t)))] := by
 have h' : t < (beN n s).length := by rw [beN_len]; exact h
 rw [List.take_succ_eq_append_getElem h']
 congr 2
 simp [beN]
set_option maxHeartbeats 2000000 in
theorem rput_c (b : List (BitVec 8)) (n : Int) (s : Nat) (hs : Sz s) (hb : b.length ≤ 1000000) : FnO Tryz.prog 94 [byS b, .int .i64 n, .int .i64 s] (putN b n s).length 1 (byL (putN b n s)) := by
 have hr := rright_c n s hs
 have hs4 : s ≤ 4 := by rcases hs with rfl | rfl | rfl <;> omega
 have hs1 : 1 ≤ s := by rcases hs with rfl | rfl | rfl <;> omega
 have hf := by_full b b.length rfl
 have hbd : b.length ≤ 140737488355328 := by omega
 unfold byS
 cases k : numOk n s
 · have e : putN b n s = b := by unfold putN; rw [k]; rfl
   rw [e]
   refine FnO.intro Tryz.func94 rfl rfl fun G w => ?_
   repeat apply WK.s
   refine WK.G 100 Tryz.ntmps94 ?_
   intro A hA Q hQ
   simp
   apply hQ
   clear hQ hA
   repeat apply WK.s
   refine WK.G 200 Tryz.ntmps94 ?_
   intro A hA Q hQ
   simp
   refine RunQ.append0 900 901 appByte rfl rfl rfl rfl rfl rfl rfl (by simp [hbd]) (by simp [hbd]) (by simp [hbd]) (by simp [hbd]) (by simp [hbd]) (by simp [hbd]) (by simp) ?_
   refine RunQ.eval ?_
   simp [hbd]
   apply hQ
   clear hQ hA
   repeat apply WK.s
   refine WK.G 300 Tryz.ntmps94 ?_
   intro A hA Q hQ
   simp
   refine RunQ.call rfl rfl rfl rfl (by rfl) (by simp (config := zd) [k]) (hr) (by simp [k]) ?_
   refine RunQ.eval ?_
   simp [k]
   apply hQ
   clear hQ hA
   refine WK.c2 rfl (fun h => ?_) (fun h => ?_)
   · repeat apply WK.s
     refine WK.G 400 Tryz.ntmps94 ?_
     intro A hA Q hQ
     simp
     apply hQ
     clear hQ hA
     refine WK.retO Tryz.func94 (by rfl) (by rfl) (by simp (config := zd) [hf]) (by simp [hf])
   · cases h
 · have e : putN b n s = b ++ beN n s := by unfold putN; rw [k]; rfl
   have hl1 := beN_len n s
   have hz : (beN n s).take 0 = [] := rfl
   have w1 : IntKind.i64.wrap ((s : Int) - 1) = (s : Int) - 1 := wrap_i64 (by omega) (by omega)
   rw [e, List.length_append, hl1]
   refine FnO.intro Tryz.func94 rfl rfl fun G w => ?_
   repeat apply WK.s
   refine WK.G 100 Tryz.ntmps94 ?_
   intro A hA Q hQ
   simp
   apply hQ
   clear hQ hA
   repeat apply WK.s
   refine WK.G 200 Tryz.ntmps94 ?_
   intro A hA Q hQ
   simp
   refine RunQ.append0 900 901 appByte rfl rfl rfl rfl rfl rfl rfl (by simp [hbd]) (by simp [hbd]) (by simp [hbd]) (by simp [hbd]) (by simp [hbd]) (by simp [hbd]) (by simp) ?_
   refine RunQ.eval ?_
   simp [hbd]
   apply hQ
   clear hQ hA
   repeat apply WK.s
   refine WK.G 300 Tryz.ntmps94 ?_
   intro A hA Q hQ
   simp
   refine RunQ.call rfl rfl rfl rfl (by rfl) (by simp (config := zd) [k]) (hr) (by simp [k]) ?_
   refine RunQ.eval ?_
   simp [k]
   apply hQ
   clear hQ hA
   refine WK.c2 rfl (fun h => ?_) (fun h => ?_)
   · cases h
   repeat (first | apply WK.s | apply WK.k)
   refine WK.G 400 Tryz.ntmps94 ?_
   intro A hA Q hQ
   simp [w1]
   apply hQ
   clear hQ hA
   repeat (apply WK.b)
   refine WK.L (fun _ => 901) (fun t : Nat => (⟨(upd (upd (upd J 1 (.int .i64 n)) 7 (.msl 1 0 (b.length + t))) 8 (.int .i64 ((s : Int) - 1 - t))), (upd B0 1 (.buf 1 (byL (b ++ (beN n s).take t)))), 0⟩ : St)) (fun t => t ≤ s) (fun t => s - t) (0) (by repeat (first | exact TmW.nil | refine TmW.upd ?_ (by simp (config := zd) [hz, hf]))) (by repeat (first | exact BxW.nil | refine BxW.upd ?_ (by simp (config := zd) [hz, hf]))) (Nat.zero_le _) (fun t ht IHt => ?_)
   repeat apply WK.s
   refine WK.G 500 Tryz.ntmps94 ?_
   intro A hA Q hQ
   simp
   apply hQ
   clear hQ hA
   refine WK.c2 rfl (fun h1 => ?_) (fun h1 => ?_)
   · simp at h1
     have h2 : t < s := by omega
     obtain ⟨j, hj⟩ : ∃ j, j = s - 1 - t := ⟨_, rfl⟩
     have ej : (s : Int) - 1 - t = (j : Int) := by omega
     have w8 : IntKind.i64.wrap (8 * (j : Int)) = 8 * (j : Int) := wrap_i64 (by omega) (by omega)
     have w9 : IntKind.i64.wrap ((j : Int) - 1) = (s : Int) - 1 - ((t : Int) + 1) := by rw [wrap_i64 (by omega) (by omega)]; omega
     have hsh : bShr .i64 n (8 * (j : Int)) = n / 2 ^ (8 * j) := by
       have := shr_i64 n (8 * j) (by omega)
       rw [← this]; congr 1
     have hnn : ¬ (8 * (j : Int) < 0) := by omega
     have hu := wrap_u8 (n / 2 ^ (8 * j))
     have hg := beN_get n s t h2
     rw [← hj] at hg
     have hs' : byL (b ++ (beN n s).take t) ++ [.int .u8 (bI (BitVec.ofInt 8 (n / 2 ^ (8 * j))))] = byL (b ++ (beN n s).take (t + 1)) := by
       rw [hg, ← byL_one, ← byL_app, List.append_assoc]
     have hL : ((beN n s).take t).length = t := by rw [List.length_take, hl1]; omega
     have hbd2 : b.length + t + 1 ≤ 140737488355328 := by omega
     rw [ej]
     repeat (first | apply WK.s | apply WK.b | apply WK.k)
     refine WK.G 600 Tryz.ntmps94 ?_
     intro A hA Q hQ
     simp [w8, hsh, hnn, hu]
     refine RunQ.append 902 appByte rfl rfl rfl rfl rfl rfl rfl (by simp [hbd2, hL]) rfl (by simp [hbd2, hL]) (by simp [hbd2, hL]) (by simp [hbd2, hL]) (by simp [hbd2, hL]) ?_
     refine RunQ.eval ?_
     simp [hbd2, hL]
     apply hQ
     clear hQ hA
     repeat (apply WK.n)
     refine WK.G 700 Tryz.ntmps94 ?_
     intro A hA Q hQ
     simp [w9]
     apply hQ
     clear hQ hA
     refine WK.N (fun n => if n = 1 then 902 else n) (IHt (t + 1) (by omega) (by first | omega | (dsimp only; omega))) (by repeat (first | exact TmW.nil | refine TmW.upd ?_ (by simp (config := zd) [w9, hs', Nat.add_assoc]))) (by repeat (first | exact BxW.nil | refine BxW.upd ?_ (by simp (config := zd) [w9, hs', Nat.add_assoc])))
   · simp at h1
     have h2 : t = s := by omega
     have hT : (beN n s).take t = beN n s := by rw [h2]; exact List.take_of_length_le (by omega)
     rw [h2]
     rw [h2] at hT
     rw [hT]
     repeat (first | apply WK.s | refine WK.exit rfl ?_)
     refine WK.G 800 Tryz.ntmps94 ?_
     intro A hA Q hQ
     simp
     apply hQ
     clear hQ hA
     refine WK.retO Tryz.func94 (by rfl) (by rfl) (by simp (config := zd)) (by simp)

def fID (f : Int) : Int := (fRow f).1
def fMasks (f : Int) : Bool := (fRow f).2.2
def fSize (f : Int) : Nat := ((fBits f).toNat + 7) / 8
theorem fRow_ok (f : Int) : (-1 ≤ (fRow f).1 ∧ (fRow f).1 ≤ 34) ∧ 0 ≤ (fRow f).2.1 ∧ (fRow f).2.1 ≤ 128 := by
 unfold fRow
 split
 · have h : f.toNat < fRows.length := by show f.toNat < 24; omega
   have : ∀ r, r ∈ fRows → (-1 ≤ r.1 ∧ r.1 ≤ 34) ∧ 0 ≤ r.2.1 ∧ r.2.1 ≤ 128 := by decide
   exact this _ (nth_mem h)
 · decide
theorem fSize_le (f : Int) : fSize f ≤ 16 := by
 have := fRow_ok f
 unfold fSize fBits; omega
theorem fid_c (f : Int) : FnP Tryz.prog 181 [.int .i64 f] (.int .i64 (fID f)) := by
 refine FnP.i Tryz.func181 rfl rfl fun G w => ?_
 repeat apply WK.s
 refine WK.G 100 Tryz.ntmps181 ?_
 intro A hA Q hQ
 simp
 apply hQ
 clear hQ hA
 repeat apply WK.s
 refine WK.G 200 Tryz.ntmps181 ?_
 intro A hA Q hQ
 simp
 refine RunQ.call rfl rfl rfl rfl (by rfl) (by simp (config := zd) [rowEnc]) (fat_c f) (by simp [rowEnc]) ?_
 refine RunQ.eval ?_
 simp [rowEnc]
 apply hQ
 clear hQ hA
 refine WK.t Tryz.func181 (by simp (config := zd) [Tryz.results181, fID]) (by simp [fID])
theorem fmasks_c (f : Int) : FnP Tryz.prog 211 [.int .i64 f] (.bool (fMasks f)) := by
 refine FnP.i Tryz.func211 rfl rfl fun G w => ?_
 repeat apply WK.s
 refine WK.G 100 Tryz.ntmps211 ?_
 intro A hA Q hQ
 simp
 apply hQ
 clear hQ hA
 repeat apply WK.s
 refine WK.G 200 Tryz.ntmps211 ?_
 intro A hA Q hQ
 simp
 refine RunQ.call rfl rfl rfl rfl (by rfl) (by simp (config := zd) [rowEnc]) (fat_c f) (by simp [rowEnc]) ?_
 refine RunQ.eval ?_
 simp [rowEnc]
 apply hQ
 clear hQ hA
 refine WK.t Tryz.func211 (by simp (config := zd) [Tryz.results211, fMasks]) (by simp [fMasks])
theorem fsize_c (f : Int) : FnP Tryz.prog 179 [.int .i64 f] (.int .i64 (fSize f)) := by
 have h := (fRow_ok f).2
 have h1 : IntKind.i64.wrap ((fRow f).2.1 + 7) = (fRow f).2.1 + 7 := wrap_i64 (by omega) (by omega)
 have h2 : bShr .i64 ((fRow f).2.1 + 7) 3 = fSize f := by
   have := shr_i64 ((fRow f).2.1 + 7) 3 (by omega)
   rw [show ((3 : Nat) : Int) = 3 from rfl] at this
   rw [this, show (2 : Int) ^ 3 = 8 from rfl]
   unfold fSize fBits; omega
 refine FnP.i Tryz.func179 rfl rfl fun G w => ?_
 repeat apply WK.s
 refine WK.G 100 Tryz.ntmps179 ?_
 intro A hA Q hQ
 simp
 apply hQ
 clear hQ hA
 repeat apply WK.s
 refine WK.G 200 Tryz.ntmps179 ?_
 intro A hA Q hQ
 simp
 refine RunQ.call rfl rfl rfl rfl (by rfl) (by simp (config := zd) [rowEnc, h1, h2]) (fat_c f) (by simp [rowEnc, h1, h2]) ?_
 refine RunQ.eval ?_
 simp [rowEnc, h1, h2]
 apply hQ
 clear hQ hA
 refine WK.t Tryz.func179 (by simp (config := zd) [Tryz.results179]) (by simp)
theorem rfid_c (f : Int) : FnP Tryz.prog 197 [.int .i64 f] (.int .i64 (fID f)) := by
 refine FnP.i Tryz.func197 rfl rfl fun G w => ?_
 repeat apply WK.s
 refine WK.G 100 Tryz.ntmps197 ?_
 intro A hA Q hQ
 simp
 apply hQ
 clear hQ hA
 repeat apply WK.s
 refine WK.G 200 Tryz.ntmps197 ?_
 intro A hA Q hQ
 simp
 refine RunQ.call rfl rfl rfl rfl (by rfl) (by simp (config := zd)) (rlow_c f) (by simp) ?_
 refine RunQ.eval ?_
 simp
 apply hQ
 clear hQ hA
 repeat apply WK.s
 refine WK.G 300 Tryz.ntmps197 ?_
 intro A hA Q hQ
 simp
 apply hQ
 clear hQ hA
 refine WK.t Tryz.func197 (by simp (config := zd) [Tryz.results197, fID]) (by simp [fID])
theorem rfmasks_c (f : Int) : FnP Tryz.prog 237 [.int .i64 f] (.bool (fMasks f)) := by
 refine FnP.i Tryz.func237 rfl rfl fun G w => ?_
 repeat apply WK.s
 refine WK.G 100 Tryz.ntmps237 ?_
 intro A hA Q hQ
 simp
 apply hQ
 clear hQ hA
 repeat apply WK.s
 refine WK.G 200 Tryz.ntmps237 ?_
 intro A hA Q hQ
 simp
 refine RunQ.call rfl rfl rfl rfl (by rfl) (by simp (config := zd)) (rlow_c f) (by simp) ?_
 refine RunQ.eval ?_
 simp
 apply hQ
 clear hQ hA
 repeat apply WK.s
 refine WK.G 300 Tryz.ntmps237 ?_
 intro A hA Q hQ
 simp
 apply hQ
 clear hQ hA
 refine WK.t Tryz.func237 (by simp (config := zd) [Tryz.results237, fMasks]) (by simp [fMasks])
theorem rfsize_c (f : Int) : FnP Tryz.prog 196 [.int .i64 f] (.int .i64 (fSize f)) := by
 have h := (fRow_ok f).2
 have h1 : IntKind.i64.wrap (fBits f + 7) = fBits f + 7 := by unfold fBits; exact wrap_i64 (by omega) (by omega)
 have h2 : IntKind.i64.wrap ((fBits f + 7).tdiv 8) = fSize f := by
   rw [Int.tdiv_eq_ediv_of_nonneg (by unfold fBits; omega), wrap_i64 (by unfold fBits; omega) (by unfold fBits; omega)]
   unfold fSize fBits; omega
 refine FnP.i Tryz.func196 rfl rfl fun G w => ?_
 repeat apply WK.s
 refine WK.G 100 Tryz.ntmps196 ?_
 intro A hA Q hQ
 simp
 apply hQ
 clear hQ hA
 repeat apply WK.s
 refine WK.G 200 Tryz.ntmps196 ?_
 intro A hA Q hQ
 simp
 refine RunQ.call rfl rfl rfl rfl (by rfl) (by simp (config := zd) [h1, h2]) (rfbits_c f) (by simp [h1, h2]) ?_
 refine RunQ.eval ?_
 simp [h1, h2]
 apply hQ
 clear hQ hA
 refine WK.t Tryz.func196 (by simp (config := zd) [Tryz.results196]) (by simp)

def hb (x : BitVec 64) (k : Nat) : BitVec 8 := (x >>> k).setWidth 8
theorem wrap_u8u (x : BitVec 64) : IntKind.wrap .u8 (uI x) = bI (x.setWidth 8) := by
 rw [wrap_u8, bI_of]; unfold bI uI; rw [BitVec.toNat_setWidth]; omega
theorem shr_uI (x : BitVec 64) (k : Nat) (hk : k ≤ 64) : bShr .u64 (uI x) k = uI (x >>> k) := by
 unfold bShr
 have : min (Int.toNat (k : Int)) (IntKind.bits .u64) = k := by show min (Int.toNat (k : Int)) 64 = k; omega
 rw [this, Int.fdiv_eq_ediv_of_nonneg _ (by exact Int.le_of_lt (Int.pow_pos (by decide)))]
 unfold uI
 rw [BitVec.toNat_ushiftRight, Nat.shiftRight_eq_div_pow]
 simp
theorem by_set (l : List (BitVec 8)) (i : Nat) (v : BitVec 8) (h : i < l.length) : (byL l).take i ++ .int .u8 (bI v) :: (byL l).drop (i + 1) = byL (l.set i v) := by
 unfold byL
 rw [List.map_set, List.set_eq_take_append_cons_drop]
 simp [h]
def wBytes (a : Wide) : List (BitVec 8) := (List.range 16).map fun j => if j < 8 then hb a.hi (56 - 8 * j) else hb a.lo (56 - 8 * (j - 8))
def wAt (a : Wide) (i : Nat) : List (BitVec 8) := (List.range 16).map fun j => if j < 8 then (if j < i then hb a.hi (56 - 8 * j) else 0#8) else (if j - 8 < i then hb a.lo (56 - 8 * (j - 8)) else 0#8)
theorem wAt_len (a : Wide) (i : Nat) : (wAt a i).length = 16 := by simp [wAt]
theorem wAt_zero (a : Wide) : byL (wAt a 0) = List.replicate 16 (.int .u8 0) := rfl
theorem wAt_eight (a : Wide) : wAt a 8 = wBytes a := rfl
theorem wAt_succ (a : Wide) (i : Nat) (h : i < 8) : ((wAt a i).set i (hb a.hi (56 - 8 * i))).set (8 + i) (hb a.lo (56 - 8 * i)) = wAt a (i + 1) := by
 match i, h with
 | 0, _ => rfl
 | 1, _ => rfl
 | 2, _ => rfl
 | 3, _ => rfl
 | 4, _ => rfl
 | 5, _ => rfl
 | 6, _ => rfl
 | 7, _ => rfl
def wPut (b : List (BitVec 8)) (a : Wide) (s : Nat) : List (BitVec 8) := b ++ (wBytes a).drop (16 - s)
theorem wBytes_len (a : Wide) : (wBytes a).length = 16 := by simp [wBytes]
theorem wPut_len (b : List (BitVec 8)) (a : Wide) (s : Nat) (h : s ≤ 16) : (wPut b a s).length = b.length + s := by simp [wPut, wBytes_len]; omega
set_option maxHeartbeats 4000000 in
theorem wput_c (b : List (BitVec 8)) (a : Wide) (s : Nat) (hs : s ≤ 16) (hb' : b.length ≤ 1000000) : FnO Tryz.prog 180 [byS b, .agg a.enc, .int .i64 s] (wPut b a s).length 1 (byL (wPut b a s)) := by
 have hf := by_full b b.length rfl
 have hbd : b.length ≤ 140737488355328 := by omega
 have hz := wAt_zero a
 rw [wPut_len b a s hs]
 unfold byS
 refine FnO.intro Tryz.func180 rfl rfl fun G w => ?_
 repeat apply WK.s
 refine WK.G 100 Tryz.ntmps180 ?_
 intro A hA Q hQ
 simp
 apply hQ
 clear hQ hA
 repeat apply WK.s
 refine WK.ghost (Ghost.frzVar 4 rfl rfl) ?_
 refine WK.G 200 Tryz.ntmps180 ?_
 intro A hA Q hQ
 simp
 apply hQ
 clear hQ hA
 repeat apply WK.s
 refine WK.G 300 Tryz.ntmps180 ?_
 intro A hA Q hQ
 simp
 apply hQ
 clear hQ hA
 repeat (apply WK.b)
 refine WK.L (fun _ => 100) (fun i : Nat => (⟨(upd (upd (upd (upd (upd J 0 (.sl false b.length (byL b))) 2 (.int .i64 s)) 4 (.iptr a.enc)) 7 (.ptr 1 0)) 10 (.int .i64 i)), (upd B0 1 (.var (byL (wAt a i)))), 0⟩ : St)) (fun i => i ≤ 8) (fun i => 8 - i) (0) (by repeat (first | exact TmW.nil | refine TmW.upd ?_ (by simp (config := zd) [hz]))) (by repeat (first | exact BxW.nil | refine BxW.upd ?_ (by simp (config := zd) [hz]))) (by omega) (fun i hi IH => ?_)
 repeat apply WK.s
 refine WK.G 400 Tryz.ntmps180 ?_
 intro A hA Q hQ
 simp
 apply hQ
 clear hQ hA
 repeat apply WK.s
 refine WK.c2 rfl (fun h1 => ?_) (fun h1 => ?_)
 · simp at h1
   have h2 : i < 8 := by omega
   have h2' : (i : Int) < 16 := by omega
   have h6 : IntKind.i64.wrap ((i : Int) + 1) = i + 1 := wrap_i64 (by omega) (by omega)
   have m0 : IntKind.i64.wrap (8 + (i : Int)) = 8 + (i : Int) := wrap_i64 (by omega) (by omega)
   have m1 : IntKind.i64.wrap (8 * (i : Int)) = 8 * (i : Int) := wrap_i64 (by omega) (by omega)
   have m2 : IntKind.i64.wrap (56 - 8 * (i : Int)) = ((56 - 8 * i : Nat) : Int) := by rw [wrap_i64 (by omega) (by omega)]; omega
   have hsu := wAt_succ a i h2
   obtain ⟨q, hq⟩ : ∃ q, q = 56 - 8 * i := ⟨_, rfl⟩
   rw [← hq] at m2 hsu
   have m3 := shr_uI a.hi q (by omega)
   have m4 := shr_uI a.lo q (by omega)
   have m5 : IntKind.wrap .u8 (uI (a.hi >>> q)) = bI (hb a.hi q) := wrap_u8u _
   have m6 : IntKind.wrap .u8 (uI (a.lo >>> q)) = bI (hb a.lo q) := wrap_u8u _
   have hl := wAt_len a i
   have s1 := by_set (wAt a i) i (hb a.hi q) (by omega)
   have s2 := by_set ((wAt a i).set i (hb a.hi q)) (8 + i) (hb a.lo q) (by rw [List.length_set]; omega)
   rw [hsu] at s2
   have c1 : (8 : Int) + i < 16 := by omega
   have c2 : ((8 : Int) + i).toNat = 8 + i := by omega
   have c3 : (0 : Int) ≤ 8 + (i : Int) := by omega
   have m7 : ¬ (q : Int) < 0 := by omega
   have c4 : i + 1 ≤ 16 := by omega
   have c5 : 8 + i + 1 ≤ 16 := by omega
   repeat (first | apply WK.s | apply WK.b | apply WK.k)
   refine WK.G 500 Tryz.ntmps180 ?_
   intro A hA Q hQ
   simp
   apply hQ
   clear hQ hA
   refine WK.regD 600 (clsM [(16, 77), (23, 77), (30, 1), (31, 1)]) (by kernel_rfl) Tryz.ntmps180 (by kernel_rfl) (by kernel_rfl) ?_
   intro A hA Q hQ
   simp [Wide.enc, m0, m1, m2, m3, m4, m5, m6, m7, h2, h2', hl, s1, s2, c1, c2, c3, c4, c5]
   apply hQ
   clear hQ hA
   repeat (apply WK.n)
   refine WK.G 700 Tryz.ntmps180 ?_
   intro A hA Q hQ
   simp [h6]
   apply hQ
   clear hQ hA
   refine WK.N (fun n => n) (IH (i + 1) (by omega) (by first | omega | (dsimp only; omega))) (by repeat (first | exact TmW.nil | refine TmW.upd ?_ (by simp (config := zd) [h6, Wide.enc]))) (by repeat (first | exact BxW.nil | refine BxW.upd ?_ (by simp (config := zd) [h6, Wide.enc])))
 · simp at h1
   have hi8 : i = 8 := by omega
   subst hi8
   rw [wAt_eight]
   repeat (first | apply WK.s | refine WK.exit rfl ?_)
   refine WK.ghost (Ghost.frzVar 7 rfl rfl) ?_
   refine WK.G 800 Tryz.ntmps180 ?_
   intro A hA Q hQ
   simp
   refine RunQ.append0 900 901 appByte rfl rfl rfl rfl rfl rfl rfl (by simp [hbd]) (by simp [hbd]) (by simp [hbd]) (by simp [hbd]) (by simp [hbd]) (by simp [hbd]) (by simp) ?_
   refine RunQ.eval ?_
   simp [hbd]
   apply hQ
   clear hQ hA
   obtain ⟨q, hq⟩ : ∃ q, q = 16 - s := ⟨_, rfl⟩
   have mx : ¬ (s : Int) < 0 := by omega
   have mn : ¬ (16 : Int) < s := by omega
   have m1 : IntKind.i64.wrap (16 - (s : Int)) = (q : Int) := by rw [wrap_i64 (by omega) (by omega)]; omega
   have m2 : (q : Int) ≤ 16 := by omega
   have m3 : 16 - q = s := by omega
   have hwl := wBytes_len a
   have hdl : ((wBytes a).drop q).length = s := by rw [List.length_drop, hwl]; omega
   have m5 : (byL (wBytes a)).drop q = byL ((wBytes a).drop q) := byL_drop _ _
   have m6 : (byL ((wBytes a).drop q)).take s = byL ((wBytes a).drop q) := by_full _ _ hdl.symm
   have e : wPut b a s = b ++ (wBytes a).drop q := by unfold wPut; rw [hq]
   have hbd2 : b.length + s ≤ 140737488355328 := by omega
   rw [e, hf]
   repeat apply WK.s
   refine WK.G 900 Tryz.ntmps180 ?_
   intro A hA Q hQ
   simp [mx, mn, m1, m2, m3, m5, m6]
   refine RunQ.append 902 appByte rfl rfl rfl rfl rfl rfl rfl (by simp [hbd2, hdl, m6]) rfl (by simp [hbd2, hdl, m6]) (by simp [hbd2, hdl, m6]) (by simp [hbd2, hdl, m6]) (by simp [hbd2, hdl, m6]) ?_
   refine RunQ.eval ?_
   simp [hbd2, hdl, m6]
   apply hQ
   clear hQ hA
   refine WK.retO Tryz.func180 (by rfl) (by rfl) (by simp (config := zd) [byL_app, m6]) (by simp [byL_app, m6])

theorem wrap_u64n {n : Int} (h : 0 ≤ n) (h' : n < 9223372036854775808) : IntKind.wrap .u64 n = n := by
 unfold IntKind.wrap
 show (if (false && decide (n % 18446744073709551616 ≥ 9223372036854775808)) = true then n % 18446744073709551616 - 18446744073709551616 else n % 18446744073709551616) = n
 rw [Bool.false_and, if_neg Bool.false_ne_true]
 exact Int.emod_eq_of_lt h (by omega)
def partW (a : Wide) (i : Nat) : BitVec 8 := if i < 8 then hb a.lo (8 * i) else hb a.hi (8 * (i - 8))
theorem part_c (a : Wide) (i : Nat) (hi : i < 16) : FnP Tryz.prog 200 [.agg a.enc, .int .i64 i] (.int .u8 (bI (partW a i))) := by
 by_cases h8 : i < 8
 · have e : partW a i = hb a.lo (8 * i) := by unfold partW; rw [if_pos h8]
   obtain ⟨q, hq⟩ : ∃ q, q = 8 * i := ⟨_, rfl⟩
   rw [← hq] at e
   have m1 : IntKind.i64.wrap (8 * (i : Int)) = (q : Int) := by rw [wrap_i64 (by omega) (by omega)]; omega
   have m2 : IntKind.u64.wrap (q : Int) = q := wrap_u64n (by omega) (by omega)
   have m3 := shr_uI a.lo q (by omega)
   have m4 : IntKind.wrap .u8 (uI (a.lo >>> q)) = bI (hb a.lo q) := wrap_u8u _
   have m7 : ¬ (q : Int) < 0 := by omega
   refine FnP.i Tryz.func200 rfl rfl fun G w => ?_
   repeat apply WK.s
   refine WK.G 100 Tryz.ntmps200 ?_
   intro A hA Q hQ
   simp
   apply hQ
   clear hQ hA
   repeat apply WK.s
   refine WK.ghost (Ghost.frzVar 2 rfl rfl) ?_
   refine WK.G 200 Tryz.ntmps200 ?_
   intro A hA Q hQ
   simp
   apply hQ
   clear hQ hA
   refine WK.c2 rfl (fun h => ?_) (fun h => ?_)
   · repeat apply WK.s
     refine WK.G 300 Tryz.ntmps200 ?_
     intro A hA Q hQ
     simp [Wide.enc, m1, m2, m3, m4, m7]
     apply hQ
     clear hQ hA
     refine WK.t Tryz.func200 (by simp (config := zd) [Tryz.results200, e]) (by simp [e])
   · simp at h; omega
 · have e : partW a i = hb a.hi (8 * (i - 8)) := by unfold partW; rw [if_neg h8]
   obtain ⟨q, hq⟩ : ∃ q, q = 8 * (i - 8) := ⟨_, rfl⟩
   rw [← hq] at e
   have m0 : IntKind.i64.wrap ((i : Int) - 8) = ((i - 8 : Nat) : Int) := by rw [wrap_i64 (by omega) (by omega)]; omega
   obtain ⟨i8, hi8⟩ : ∃ i8, i8 = i - 8 := ⟨_, rfl⟩
   rw [← hi8] at m0
   have m1 : IntKind.i64.wrap (8 * (i8 : Int)) = (q : Int) := by rw [wrap_i64 (by omega) (by omega)]; omega
   have m2 : IntKind.u64.wrap (q : Int) = q := wrap_u64n (by omega) (by omega)
   have m3 := shr_uI a.hi q (by omega)
   have m4 : IntKind.wrap .u8 (uI (a.hi >>> q)) = bI (hb a.hi q) := wrap_u8u _
   have m7 : ¬ (q : Int) < 0 := by omega
   refine FnP.i Tryz.func200 rfl rfl fun G w => ?_
   repeat apply WK.s
   refine WK.G 100 Tryz.ntmps200 ?_
   intro A hA Q hQ
   simp
   apply hQ
   clear hQ hA
   repeat apply WK.s
   refine WK.ghost (Ghost.frzVar 2 rfl rfl) ?_
   refine WK.G 200 Tryz.ntmps200 ?_
   intro A hA Q hQ
   simp
   apply hQ
   clear hQ hA
   refine WK.c2 rfl (fun h => ?_) (fun h => ?_)
   · simp at h; omega
   · repeat (first | apply WK.s | apply WK.k)
     refine WK.G 300 Tryz.ntmps200 ?_
     intro A hA Q hQ
     simp [Wide.enc, m0, m1, m2, m3, m4, m7]
     apply hQ
     clear hQ hA
     refine WK.t Tryz.func200 (by simp (config := zd) [Tryz.results200, e]) (by simp [e])
theorem wB_get (a : Wide) (s t : Nat) (hs : s ≤ 16) (ht : t < s) : ((wBytes a).drop (16 - s)).take (t + 1) = ((wBytes a).drop (16 - s)).take t ++ [partW a (s - 1 - t)] := by
 have h' : t < ((wBytes a).drop (16 - s)).length := by rw [List.length_drop, wBytes_len]; omega
 rw [List.take_succ_eq_append_getElem h']
 congr 2
 simp only [List.getElem_drop, wBytes, List.getElem_map, List.getElem_range, partW]
 by_cases h8 : 16 - s + t < 8
 · rw [if_pos h8, if_neg (by omega)]; congr 1; omega
 · rw [if_neg h8, if_pos (by omega)]; congr 1; omega
set_option maxHeartbeats 2000000 in
theorem rwput_c (b : List (BitVec 8)) (a : Wide) (s : Nat) (hs : s ≤ 16) (hb' : b.length ≤ 1000000) : FnO Tryz.prog 158 [byS b, .agg a.enc, .int .i64 s] (wPut b a s).length 1 (byL (wPut b a s)) := by
 have hf := by_full b b.length rfl
 have hbd : b.length ≤ 140737488355328 := by omega
 obtain ⟨X, hX⟩ : ∃ X, X = (wBytes a).drop (16 - s) := ⟨_, rfl⟩
 have hXl : X.length = s := by rw [hX, List.length_drop, wBytes_len]; omega
 have e : wPut b a s = b ++ X := by unfold wPut; rw [hX]
 have hz : X.take 0 = [] := rfl
 have mx : ¬ (s : Int) < 0 := by omega
 have mn : ¬ (16 : Int) < s := by omega
 have w1 : IntKind.i64.wrap ((s : Int) - 1) = (s : Int) - 1 := wrap_i64 (by omega) (by omega)
 rw [wPut_len b a s hs, e]
 unfold byS
 refine FnO.intro Tryz.func158 rfl rfl fun G w => ?_
 repeat apply WK.s
 refine WK.G 100 Tryz.ntmps158 ?_
 intro A hA Q hQ
 simp
 apply hQ
 clear hQ hA
 repeat apply WK.s
 refine WK.ghost (Ghost.frzVar 4 rfl rfl) ?_
 refine WK.G 200 Tryz.ntmps158 ?_
 intro A hA Q hQ
 simp
 refine RunQ.append0 900 901 appByte rfl rfl rfl rfl rfl rfl rfl (by simp [hbd]) (by simp [hbd]) (by simp [hbd]) (by simp [hbd]) (by simp [hbd]) (by simp [hbd]) (by simp) ?_
 refine RunQ.eval ?_
 simp [hbd]
 apply hQ
 clear hQ hA
 repeat apply WK.s
 refine WK.G 300 Tryz.ntmps158 ?_
 intro A hA Q hQ
 simp [mx, mn, w1]
 apply hQ
 clear hQ hA
 repeat (apply WK.b)
 refine WK.L (fun _ => 901) (fun t : Nat => (⟨(upd (upd (upd J 4 (.iptr a.enc)) 7 (.msl 1 0 (b.length + t))) 8 (.int .i64 ((s : Int) - 1 - t))), (upd B0 1 (.buf 1 (byL (b ++ X.take t)))), 0⟩ : St)) (fun t => t ≤ s) (fun t => s - t) (0) (by repeat (first | exact TmW.nil | refine TmW.upd ?_ (by simp (config := zd) [hz, hf]))) (by repeat (first | exact BxW.nil | refine BxW.upd ?_ (by simp (config := zd) [hz, hf]))) (Nat.zero_le _) (fun t ht IHt => ?_)
 repeat apply WK.s
 refine WK.G 400 Tryz.ntmps158 ?_
 intro A hA Q hQ
 simp
 apply hQ
 clear hQ hA
 refine WK.c2 rfl (fun h1 => ?_) (fun h1 => ?_)
 · simp at h1
   have h2 : t < s := by omega
   have hg := wB_get a s t hs h2
   rw [← hX] at hg
   obtain ⟨j, hj⟩ : ∃ j, j = s - 1 - t := ⟨_, rfl⟩
   rw [← hj] at hg
   have ej : (s : Int) - 1 - t = (j : Int) := by omega
   have w9 : IntKind.i64.wrap ((j : Int) - 1) = (s : Int) - 1 - ((t : Int) + 1) := by rw [wrap_i64 (by omega) (by omega)]; omega
   have hs' : byL (b ++ X.take t) ++ [.int .u8 (bI (partW a j))] = byL (b ++ X.take (t + 1)) := by
     rw [hg, ← byL_one, ← byL_app, List.append_assoc]
   have hL : (X.take t).length = t := by rw [List.length_take, hXl]; omega
   have hbd2 : b.length + t + 1 ≤ 140737488355328 := by omega
   rw [ej]
   repeat (first | apply WK.s | apply WK.b | apply WK.k)
   refine WK.G 500 Tryz.ntmps158 ?_
   intro A hA Q hQ
   simp [Wide.enc]
   refine RunQ.call rfl rfl rfl rfl (by rfl) (by simp (config := zd) [Wide.enc]) (part_c a j (by omega)) (by simp [Wide.enc]) ?_
   refine RunQ.eval ?_
   simp [Wide.enc]
   refine RunQ.append 902 appByte rfl rfl rfl rfl rfl rfl rfl (by simp [hbd2, hL]) rfl (by simp [hbd2, hL]) (by simp [hbd2, hL]) (by simp [hbd2, hL]) (by simp [hbd2, hL]) ?_
   refine RunQ.eval ?_
   simp [hbd2, hL]
   apply hQ
   clear hQ hA
   repeat (apply WK.n)
   refine WK.G 600 Tryz.ntmps158 ?_
   intro A hA Q hQ
   simp [w9]
   apply hQ
   clear hQ hA
   refine WK.N (fun n => if n = 1 then 902 else n) (IHt (t + 1) (by omega) (by first | omega | (dsimp only; omega))) (by repeat (first | exact TmW.nil | refine TmW.upd ?_ (by simp (config := zd) [w9, hs', Nat.add_assoc, Wide.enc]))) (by repeat (first | exact BxW.nil | refine BxW.upd ?_ (by simp (config := zd) [w9, hs', Nat.add_assoc, Wide.enc])))
 · simp at h1
   have h2 : t = s := by omega
   have hT : X.take t = X := by rw [h2]; exact List.take_of_length_le (by omega)
   rw [h2]
   rw [h2] at hT
   rw [hT]
   repeat (first | apply WK.s | refine WK.exit rfl ?_)
   refine WK.G 700 Tryz.ntmps158 ?_
   intro A hA Q hQ
   simp
   apply hQ
   clear hQ hA
   refine WK.retO Tryz.func158 (by rfl) (by rfl) (by simp (config := zd)) (by simp)

def Oxm.beyond (o : Oxm) (w : Wide) : Bool := !(w.less (lowW (fBits o.field))).zero
def Oxm.form (o : Oxm) : Int := if Oxm.beyond o o.value then 7 else if !o.masked then 0 else if Oxm.beyond o o.mask || o.mask.zero then 8 else if !(o.value.less o.mask).zero then 5 else 0
def Oxm.right (o : Oxm) : Bool := !(!fRight o.field || ((o.masked && !fMasks o.field) || (!o.masked && !o.mask.zero))) && (Oxm.form o) == 0
theorem obeyond_c (o : Oxm) (w0 : Wide) : FnP Tryz.prog 244 [.agg w0.enc, .iptr o.enc] (.bool (Oxm.beyond o w0)) := by
 refine FnP.i Tryz.func244 rfl rfl fun G w => ?_
 repeat apply WK.s
 refine WK.G 100 Tryz.ntmps244 ?_
 intro A hA Q hQ
 simp
 apply hQ
 clear hQ hA
 repeat apply WK.s
 refine WK.ghost (Ghost.frzVar 2 rfl rfl) ?_
 refine WK.D 200 Tryz.ntmps244 ?_
 intro A hA Q hQ
 simp [Oxm.enc]
 refine RunQ.call rfl rfl rfl rfl (by rfl) (by simp (config := zd)) (fbits_c o.field) (by simp) ?_
 refine RunQ.eval ?_
 simp
 refine RunQ.call rfl rfl rfl rfl (by rfl) (by simp (config := zd)) (low_c (fBits o.field)) (by simp) ?_
 refine RunQ.eval ?_
 simp
 refine RunQ.call rfl rfl rfl rfl (by rfl) (by simp (config := zd)) (less_c w0 (lowW (fBits o.field))) (by simp) ?_
 refine RunQ.eval ?_
 simp
 refine RunQ.call rfl rfl rfl rfl (by rfl) (by simp (config := zd)) (zero_c (w0.less (lowW (fBits o.field)))) (by simp) ?_
 refine RunQ.eval ?_
 simp
 apply hQ
 clear hQ hA
 refine WK.t Tryz.func244 (by simp (config := zd) [Tryz.results244, Oxm.beyond]) (by simp [Oxm.beyond])
set_option maxHeartbeats 2000000 in
theorem oform_c (o : Oxm) : FnP Tryz.prog 213 [.agg o.enc] (.int .i64 (Oxm.form o)) := by
 have hb1 := obeyond_c o o.value
 have hb2 := obeyond_c o o.mask
 have hz := zero_c o.mask
 have hl := less_c o.value o.mask
 have hz2 := zero_c (o.value.less o.mask)
 simp only [Oxm.enc, Wide.enc] at hb1 hb2 hz hl hz2
 cases k1 : Oxm.beyond o o.value
 case true =>
   rw [k1] at hb1
   have e : (Oxm.form o) = 7 := by unfold Oxm.form; rw [k1]; rfl
   refine FnP.i Tryz.func213 rfl rfl fun G w => ?_
   repeat apply WK.s
   refine WK.G 100 Tryz.ntmps213 ?_
   intro A hA Q hQ
   simp [Oxm.enc]
   apply hQ
   clear hQ hA
   repeat apply WK.s
   refine WK.ghost (Ghost.frzVar 1 rfl rfl) ?_
   refine WK.G 200 Tryz.ntmps213 ?_
   intro A hA Q hQ
   simp
   apply hQ
   clear hQ hA
   repeat (first | apply WK.s | apply WK.b)
   refine WK.G 300 Tryz.ntmps213 ?_
   intro A hA Q hQ
   simp
   refine RunQ.call rfl rfl rfl rfl (by rfl) (by simp (config := zd)) (hb1) (by simp) ?_
   refine RunQ.eval ?_
   simp
   apply hQ
   clear hQ hA
   refine WK.c2 rfl (fun h => ?_) (fun h => ?_)
   · repeat apply WK.s
     refine WK.G 400 Tryz.ntmps213 ?_
     intro A hA Q hQ
     simp
     apply hQ
     clear hQ hA
     refine WK.t Tryz.func213 (by simp (config := zd) [Tryz.results213, e]) (by simp [e])
   · cases h
 rw [k1] at hb1
 cases k2 : o.masked
 case false =>
   have e : (Oxm.form o) = 0 := by unfold Oxm.form; rw [k1, k2]; rfl
   rw [k2] at hb1
   refine FnP.i Tryz.func213 rfl rfl fun G w => ?_
   repeat apply WK.s
   refine WK.G 100 Tryz.ntmps213 ?_
   intro A hA Q hQ
   simp [Oxm.enc, k2]
   apply hQ
   clear hQ hA
   repeat apply WK.s
   refine WK.ghost (Ghost.frzVar 1 rfl rfl) ?_
   refine WK.G 200 Tryz.ntmps213 ?_
   intro A hA Q hQ
   simp
   apply hQ
   clear hQ hA
   repeat (first | apply WK.s | apply WK.b)
   refine WK.G 300 Tryz.ntmps213 ?_
   intro A hA Q hQ
   simp
   refine RunQ.call rfl rfl rfl rfl (by rfl) (by simp (config := zd)) (hb1) (by simp) ?_
   refine RunQ.eval ?_
   simp
   apply hQ
   clear hQ hA
   refine WK.c2 rfl (fun h => ?_) (fun h => ?_)
   · cases h
   repeat apply WK.s
   refine WK.G 400 Tryz.ntmps213 ?_
   intro A hA Q hQ
   simp
   apply hQ
   clear hQ hA
   refine WK.c2 rfl (fun h => ?_) (fun h => ?_)
   · repeat apply WK.s
     refine WK.G 500 Tryz.ntmps213 ?_
     intro A hA Q hQ
     simp
     apply hQ
     clear hQ hA
     refine WK.t Tryz.func213 (by simp (config := zd) [Tryz.results213, e]) (by simp [e])
   · cases h
 rw [k2] at hb1 hb2
 cases k3 : Oxm.beyond o o.mask || o.mask.zero
 case true =>
   have e : (Oxm.form o) = 8 := by unfold Oxm.form; rw [k1, k2, k3]; rfl
   refine FnP.i Tryz.func213 rfl rfl fun G w => ?_
   repeat apply WK.s
   refine WK.G 100 Tryz.ntmps213 ?_
   intro A hA Q hQ
   simp [Oxm.enc, k2]
   apply hQ
   clear hQ hA
   repeat apply WK.s
   refine WK.ghost (Ghost.frzVar 1 rfl rfl) ?_
   refine WK.G 200 Tryz.ntmps213 ?_
   intro A hA Q hQ
   simp
   apply hQ
   clear hQ hA
   repeat (first | apply WK.s | apply WK.b)
   refine WK.G 300 Tryz.ntmps213 ?_
   intro A hA Q hQ
   simp
   refine RunQ.call rfl rfl rfl rfl (by rfl) (by simp (config := zd)) (hb1) (by simp) ?_
   refine RunQ.eval ?_
   simp
   apply hQ
   clear hQ hA
   refine WK.c2 rfl (fun h => ?_) (fun h => ?_)
   · cases h
   repeat apply WK.s
   refine WK.G 400 Tryz.ntmps213 ?_
   intro A hA Q hQ
   simp
   apply hQ
   clear hQ hA
   refine WK.c2 rfl (fun h => ?_) (fun h => ?_)
   · cases h
   cases k4 : Oxm.beyond o o.mask
   · rw [k4] at hb2 k3
     rw [Bool.false_or] at k3
     rw [k3] at hz
     repeat apply WK.s
     refine WK.G 500 Tryz.ntmps213 ?_
     intro A hA Q hQ
     have hg4 : (A[4]?).bind (·.dst) = some 19 := by rw [hA]; rfl
     simp [hg4]
     refine RunQ.call rfl rfl rfl rfl (by rfl) (by simp (config := zd) [hg4]) (hb2) (by simp [hg4]) ?_
     refine RunQ.eval ?_
     simp [hg4]
     refine RunQ.callG rfl rfl (by simp [hg4]) rfl (by rfl) (by simp (config := zd) [hg4]) (hz) (by simp [hg4]) ?_
     refine RunQ.eval ?_
     simp [hg4]
     apply hQ
     clear hQ hA
     refine WK.c2 rfl (fun h => ?_) (fun h => ?_)
     · repeat apply WK.s
       refine WK.G 600 Tryz.ntmps213 ?_
       intro A hA Q hQ
       simp
       apply hQ
       clear hQ hA
       refine WK.t Tryz.func213 (by simp (config := zd) [Tryz.results213, e]) (by simp [e])
     · cases h
   · rw [k4] at hb2
     repeat apply WK.s
     refine WK.G 700 Tryz.ntmps213 ?_
     intro A hA Q hQ
     have hg4 : (A[4]?).bind (·.dst) = some 19 := by rw [hA]; rfl
     simp [hg4]
     refine RunQ.call rfl rfl rfl rfl (by rfl) (by simp (config := zd) [hg4]) (hb2) (by simp [hg4]) ?_
     refine RunQ.eval ?_
     simp [hg4]
     apply hQ
     clear hQ hA
     refine WK.c2 rfl (fun h => ?_) (fun h => ?_)
     · repeat apply WK.s
       refine WK.G 800 Tryz.ntmps213 ?_
       intro A hA Q hQ
       simp
       apply hQ
       clear hQ hA
       refine WK.t Tryz.func213 (by simp (config := zd) [Tryz.results213, e]) (by simp [e])
     · cases h
 rw [Bool.or_eq_false_iff] at k3
 rw [k3.1] at hb2
 rw [k3.2] at hz
 cases k5 : (o.value.less o.mask).zero
 · have e : (Oxm.form o) = 5 := by unfold Oxm.form; rw [k1, k2, k3.1, k3.2, k5]; rfl
   rw [k5] at hz2
   refine FnP.i Tryz.func213 rfl rfl fun G w => ?_
   repeat apply WK.s
   refine WK.G 100 Tryz.ntmps213 ?_
   intro A hA Q hQ
   simp [Oxm.enc, k2]
   apply hQ
   clear hQ hA
   repeat apply WK.s
   refine WK.ghost (Ghost.frzVar 1 rfl rfl) ?_
   refine WK.G 200 Tryz.ntmps213 ?_
   intro A hA Q hQ
   simp
   apply hQ
   clear hQ hA
   repeat (first | apply WK.s | apply WK.b)
   refine WK.G 300 Tryz.ntmps213 ?_
   intro A hA Q hQ
   simp
   refine RunQ.call rfl rfl rfl rfl (by rfl) (by simp (config := zd)) (hb1) (by simp) ?_
   refine RunQ.eval ?_
   simp
   apply hQ
   clear hQ hA
   refine WK.c2 rfl (fun h => ?_) (fun h => ?_)
   · cases h
   repeat apply WK.s
   refine WK.G 400 Tryz.ntmps213 ?_
   intro A hA Q hQ
   simp
   apply hQ
   clear hQ hA
   refine WK.c2 rfl (fun h => ?_) (fun h => ?_)
   · cases h
   repeat apply WK.s
   refine WK.G 500 Tryz.ntmps213 ?_
   intro A hA Q hQ
   have hg4 : (A[4]?).bind (·.dst) = some 19 := by rw [hA]; rfl
   simp [hg4]
   refine RunQ.call rfl rfl rfl rfl (by rfl) (by simp (config := zd) [hg4]) (hb2) (by simp [hg4]) ?_
   refine RunQ.eval ?_
   simp [hg4]
   refine RunQ.callG rfl rfl (by simp [hg4]) rfl (by rfl) (by simp (config := zd) [hg4]) (hz) (by simp [hg4]) ?_
   refine RunQ.eval ?_
   simp [hg4]
   apply hQ
   clear hQ hA
   refine WK.c2 rfl (fun h => ?_) (fun h => ?_)
   · cases h
   repeat apply WK.s
   refine WK.G 600 Tryz.ntmps213 ?_
   intro A hA Q hQ
   simp
   refine RunQ.call rfl rfl rfl rfl (by rfl) (by simp (config := zd)) (hl) (by simp) ?_
   refine RunQ.eval ?_
   simp
   refine RunQ.call rfl rfl rfl rfl (by rfl) (by simp (config := zd)) (hz2) (by simp) ?_
   refine RunQ.eval ?_
   simp
   apply hQ
   clear hQ hA
   refine WK.c2 rfl (fun h => ?_) (fun h => ?_)
   · repeat apply WK.s
     refine WK.G 700 Tryz.ntmps213 ?_
     intro A hA Q hQ
     simp
     apply hQ
     clear hQ hA
     refine WK.t Tryz.func213 (by simp (config := zd) [Tryz.results213, e]) (by simp [e])
   · cases h
 · have e : (Oxm.form o) = 0 := by unfold Oxm.form; rw [k1, k2, k3.1, k3.2, k5]; rfl
   rw [k5] at hz2
   refine FnP.i Tryz.func213 rfl rfl fun G w => ?_
   repeat apply WK.s
   refine WK.G 100 Tryz.ntmps213 ?_
   intro A hA Q hQ
   simp [Oxm.enc, k2]
   apply hQ
   clear hQ hA
   repeat apply WK.s
   refine WK.ghost (Ghost.frzVar 1 rfl rfl) ?_
   refine WK.G 200 Tryz.ntmps213 ?_
   intro A hA Q hQ
   simp
   apply hQ
   clear hQ hA
   repeat (first | apply WK.s | apply WK.b)
   refine WK.G 300 Tryz.ntmps213 ?_
   intro A hA Q hQ
   simp
   refine RunQ.call rfl rfl rfl rfl (by rfl) (by simp (config := zd)) (hb1) (by simp) ?_
   refine RunQ.eval ?_
   simp
   apply hQ
   clear hQ hA
   refine WK.c2 rfl (fun h => ?_) (fun h => ?_)
   · cases h
   repeat apply WK.s
   refine WK.G 400 Tryz.ntmps213 ?_
   intro A hA Q hQ
   simp
   apply hQ
   clear hQ hA
   refine WK.c2 rfl (fun h => ?_) (fun h => ?_)
   · cases h
   repeat apply WK.s
   refine WK.G 500 Tryz.ntmps213 ?_
   intro A hA Q hQ
   have hg4 : (A[4]?).bind (·.dst) = some 19 := by rw [hA]; rfl
   simp [hg4]
   refine RunQ.call rfl rfl rfl rfl (by rfl) (by simp (config := zd) [hg4]) (hb2) (by simp [hg4]) ?_
   refine RunQ.eval ?_
   simp [hg4]
   refine RunQ.callG rfl rfl (by simp [hg4]) rfl (by rfl) (by simp (config := zd) [hg4]) (hz) (by simp [hg4]) ?_
   refine RunQ.eval ?_
   simp [hg4]
   apply hQ
   clear hQ hA
   refine WK.c2 rfl (fun h => ?_) (fun h => ?_)
   · cases h
   repeat apply WK.s
   refine WK.G 600 Tryz.ntmps213 ?_
   intro A hA Q hQ
   simp
   refine RunQ.call rfl rfl rfl rfl (by rfl) (by simp (config := zd)) (hl) (by simp) ?_
   refine RunQ.eval ?_
   simp
   refine RunQ.call rfl rfl rfl rfl (by rfl) (by simp (config := zd)) (hz2) (by simp) ?_
   refine RunQ.eval ?_
   simp
   apply hQ
   clear hQ hA
   refine WK.c2 rfl (fun h => ?_) (fun h => ?_)
   · cases h
   · repeat (first | apply WK.s | apply WK.n | apply WK.k)
     refine WK.G 700 Tryz.ntmps213 ?_
     intro A hA Q hQ
     simp
     apply hQ
     clear hQ hA
     refine WK.t Tryz.func213 (by simp (config := zd) [Tryz.results213, e]) (by simp [e])

set_option maxHeartbeats 4000000 in
theorem oright_c (o : Oxm) : FnP Tryz.prog 178 [.agg o.enc] (.bool (Oxm.right o)) := by
 have hf := oform_c o
 have hm := zero_c o.mask
 simp only [Oxm.enc, Wide.enc] at hf hm
 cases k1 : fRight o.field
 · have e : Oxm.right o = false := by unfold Oxm.right; rw [k1]; rfl
   refine FnP.i Tryz.func178 rfl rfl fun G w => ?_
   repeat apply WK.s
   refine WK.G 100 Tryz.ntmps178 ?_
   intro A hA Q hQ
   simp [Oxm.enc]
   apply hQ
   clear hQ hA
   repeat apply WK.s
   refine WK.ghost (Ghost.frzVar 1 rfl rfl) ?_
   refine WK.G 200 Tryz.ntmps178 ?_
   intro A hA Q hQ
   have hg4 : (A[4]?).bind (·.dst) = some 7 := by rw [hA]; rfl
   have hg7 : (A[7]?).bind (·.dst) = some 10 := by rw [hA]; rfl
   have hg14 : (A[14]?).bind (·.dst) = some 17 := by rw [hA]; rfl
   have hg18 : (A[18]?).bind (·.dst) = some 21 := by rw [hA]; rfl
   simp [hg4, hg7, hg14, hg18]
   refine RunQ.call rfl rfl rfl rfl (by rfl) (by simp (config := zd) [k1, hg4, hg7, hg14, hg18]) (fright_c o.field) (by simp [k1, hg4, hg7, hg14, hg18]) ?_
   refine RunQ.eval ?_
   simp [k1, hg4, hg7, hg14, hg18]
   apply hQ
   clear hQ hA
   refine WK.c2 rfl (fun h => ?_) (fun h => ?_)
   · repeat apply WK.s
     refine WK.G 300 Tryz.ntmps178 ?_
     intro A hA Q hQ
     simp
     apply hQ
     clear hQ hA
     refine WK.t Tryz.func178 (by simp (config := zd) [Tryz.results178, e]) (by simp [e])
   · cases h
 cases k2 : o.masked
 · rw [k2] at hf
   cases k3 : o.mask.zero
   · have e : Oxm.right o = false := by unfold Oxm.right; rw [k1, k2, k3]; rfl
     rw [k3] at hm
     refine FnP.i Tryz.func178 rfl rfl fun G w => ?_
     repeat apply WK.s
     refine WK.G 100 Tryz.ntmps178 ?_
     intro A hA Q hQ
     simp [Oxm.enc, k2]
     apply hQ
     clear hQ hA
     repeat apply WK.s
     refine WK.ghost (Ghost.frzVar 1 rfl rfl) ?_
     refine WK.G 200 Tryz.ntmps178 ?_
     intro A hA Q hQ
     have hg4 : (A[4]?).bind (·.dst) = some 7 := by rw [hA]; rfl
     have hg7 : (A[7]?).bind (·.dst) = some 10 := by rw [hA]; rfl
     have hg14 : (A[14]?).bind (·.dst) = some 17 := by rw [hA]; rfl
     have hg18 : (A[18]?).bind (·.dst) = some 21 := by rw [hA]; rfl
     simp [hg4, hg7, hg14, hg18]
     refine RunQ.call rfl rfl rfl rfl (by rfl) (by simp (config := zd) [k1, hg4, hg7, hg14, hg18]) (fright_c o.field) (by simp [k1, hg4, hg7, hg14, hg18]) ?_
     refine RunQ.eval ?_
     simp [k1, hg4, hg7, hg14, hg18]
     refine RunQ.callG rfl rfl (by simp [hg14, hg18]) rfl (by rfl) (by simp (config := zd) [hg14, hg18]) (hm) (by simp [hg14, hg18]) ?_
     refine RunQ.eval ?_
     simp [hg14, hg18]
     apply hQ
     clear hQ hA
     refine WK.c2 rfl (fun h => ?_) (fun h => ?_)
     · repeat apply WK.s
       refine WK.G 300 Tryz.ntmps178 ?_
       intro A hA Q hQ
       simp
       apply hQ
       clear hQ hA
       refine WK.t Tryz.func178 (by simp (config := zd) [Tryz.results178, e]) (by simp [e])
     · cases h
   · have e : Oxm.right o = (Oxm.form o == 0) := by unfold Oxm.right; rw [k1, k2, k3]; rfl
     rw [k3] at hm
     refine FnP.i Tryz.func178 rfl rfl fun G w => ?_
     repeat apply WK.s
     refine WK.G 100 Tryz.ntmps178 ?_
     intro A hA Q hQ
     simp [Oxm.enc, k2]
     apply hQ
     clear hQ hA
     repeat apply WK.s
     refine WK.ghost (Ghost.frzVar 1 rfl rfl) ?_
     refine WK.G 200 Tryz.ntmps178 ?_
     intro A hA Q hQ
     have hg4 : (A[4]?).bind (·.dst) = some 7 := by rw [hA]; rfl
     have hg7 : (A[7]?).bind (·.dst) = some 10 := by rw [hA]; rfl
     have hg14 : (A[14]?).bind (·.dst) = some 17 := by rw [hA]; rfl
     have hg18 : (A[18]?).bind (·.dst) = some 21 := by rw [hA]; rfl
     simp [hg4, hg7, hg14, hg18]
     refine RunQ.call rfl rfl rfl rfl (by rfl) (by simp (config := zd) [k1, hg4, hg7, hg14, hg18]) (fright_c o.field) (by simp [k1, hg4, hg7, hg14, hg18]) ?_
     refine RunQ.eval ?_
     simp [k1, hg4, hg7, hg14, hg18]
     refine RunQ.callG rfl rfl (by simp [hg14, hg18]) rfl (by rfl) (by simp (config := zd) [hg14, hg18]) (hm) (by simp [hg14, hg18]) ?_
     refine RunQ.eval ?_
     simp [hg14, hg18]
     apply hQ
     clear hQ hA
     refine WK.c2 rfl (fun h => ?_) (fun h => ?_)
     · cases h
     repeat (first | apply WK.s | apply WK.k)
     refine WK.G 300 Tryz.ntmps178 ?_
     intro A hA Q hQ
     simp
     refine RunQ.call rfl rfl rfl rfl (by rfl) (by simp (config := zd)) (hf) (by simp) ?_
     refine RunQ.eval ?_
     simp
     apply hQ
     clear hQ hA
     refine WK.t Tryz.func178 (by simp (config := zd) [Tryz.results178, e]) (by simp [e])
 · rw [k2] at hf
   cases k3 : fMasks o.field
   · have e : Oxm.right o = false := by unfold Oxm.right; rw [k1, k2, k3]; rfl
     refine FnP.i Tryz.func178 rfl rfl fun G w => ?_
     repeat apply WK.s
     refine WK.G 100 Tryz.ntmps178 ?_
     intro A hA Q hQ
     simp [Oxm.enc, k2]
     apply hQ
     clear hQ hA
     repeat apply WK.s
     refine WK.ghost (Ghost.frzVar 1 rfl rfl) ?_
     refine WK.G 200 Tryz.ntmps178 ?_
     intro A hA Q hQ
     have hg4 : (A[4]?).bind (·.dst) = some 7 := by rw [hA]; rfl
     have hg7 : (A[7]?).bind (·.dst) = some 10 := by rw [hA]; rfl
     have hg14 : (A[14]?).bind (·.dst) = some 17 := by rw [hA]; rfl
     have hg18 : (A[18]?).bind (·.dst) = some 21 := by rw [hA]; rfl
     simp [hg4, hg7, hg14, hg18]
     refine RunQ.call rfl rfl rfl rfl (by rfl) (by simp (config := zd) [k1, hg4, hg7, hg14, hg18]) (fright_c o.field) (by simp [k1, hg4, hg7, hg14, hg18]) ?_
     refine RunQ.eval ?_
     simp [k1, hg4, hg7, hg14, hg18]
     refine RunQ.callG rfl rfl (by simp [k3, hg4, hg7, hg14, hg18]) rfl (by rfl) (by simp (config := zd) [k3, hg4, hg7, hg14, hg18]) (fmasks_c o.field) (by simp [k3, hg4, hg7, hg14, hg18]) ?_
     refine RunQ.eval ?_
     simp [k3, hg4, hg7, hg14, hg18]
     apply hQ
     clear hQ hA
     refine WK.c2 rfl (fun h => ?_) (fun h => ?_)
     · repeat apply WK.s
       refine WK.G 300 Tryz.ntmps178 ?_
       intro A hA Q hQ
       simp
       apply hQ
       clear hQ hA
       refine WK.t Tryz.func178 (by simp (config := zd) [Tryz.results178, e]) (by simp [e])
     · cases h
   · have e : Oxm.right o = (Oxm.form o == 0) := by unfold Oxm.right; rw [k1, k2, k3]; rfl
     refine FnP.i Tryz.func178 rfl rfl fun G w => ?_
     repeat apply WK.s
     refine WK.G 100 Tryz.ntmps178 ?_
     intro A hA Q hQ
     simp [Oxm.enc, k2]
     apply hQ
     clear hQ hA
     repeat apply WK.s
     refine WK.ghost (Ghost.frzVar 1 rfl rfl) ?_
     refine WK.G 200 Tryz.ntmps178 ?_
     intro A hA Q hQ
     have hg4 : (A[4]?).bind (·.dst) = some 7 := by rw [hA]; rfl
     have hg7 : (A[7]?).bind (·.dst) = some 10 := by rw [hA]; rfl
     have hg14 : (A[14]?).bind (·.dst) = some 17 := by rw [hA]; rfl
     have hg18 : (A[18]?).bind (·.dst) = some 21 := by rw [hA]; rfl
     simp [hg4, hg7, hg14, hg18]
     refine RunQ.call rfl rfl rfl rfl (by rfl) (by simp (config := zd) [k1, hg4, hg7, hg14, hg18]) (fright_c o.field) (by simp [k1, hg4, hg7, hg14, hg18]) ?_
     refine RunQ.eval ?_
     simp [k1, hg4, hg7, hg14, hg18]
     refine RunQ.callG rfl rfl (by simp [k3, hg4, hg7, hg14, hg18]) rfl (by rfl) (by simp (config := zd) [k3, hg4, hg7, hg14, hg18]) (fmasks_c o.field) (by simp [k3, hg4, hg7, hg14, hg18]) ?_
     refine RunQ.eval ?_
     simp [k3, hg4, hg7, hg14, hg18]
     apply hQ
     clear hQ hA
     refine WK.c2 rfl (fun h => ?_) (fun h => ?_)
     · cases h
     repeat (first | apply WK.s | apply WK.k)
     refine WK.G 300 Tryz.ntmps178 ?_
     intro A hA Q hQ
     simp
     refine RunQ.call rfl rfl rfl rfl (by rfl) (by simp (config := zd)) (hf) (by simp) ?_
     refine RunQ.eval ?_
     simp
     apply hQ
     clear hQ hA
     refine WK.t Tryz.func178 (by simp (config := zd) [Tryz.results178, e]) (by simp [e])
set_option maxHeartbeats 4000000 in
theorem roright_c (o : Oxm) : FnP Tryz.prog 195 [.agg o.enc] (.bool (Oxm.right o)) := by
 have hbits := (fRow_ok o.field).2
 have hlow := rlow2_c (fBits o.field) (by unfold fBits; omega)
 obtain ⟨A0, hA0⟩ : ∃ A0, A0 = lowW (fBits o.field) := ⟨_, rfl⟩
 rw [← hA0] at hlow
 have hm := rzero_c o.mask
 have hl1 := rless_c o.value A0
 have hz1 := rzero_c (o.value.less A0)
 have hl2 := rless_c o.mask A0
 have hz2 := rzero_c (o.mask.less A0)
 have hl3 := rless_c o.value o.mask
 have hz3 := rzero_c (o.value.less o.mask)
 simp only [Wide.enc] at hm hl1 hl2 hl3 hlow hz1 hz2 hz3
 have eb : ∀ w0 : Wide, Oxm.beyond o w0 = !(w0.less A0).zero := fun w0 => by unfold Oxm.beyond; rw [hA0]
 cases k1 : fRight o.field
 · have e : Oxm.right o = false := by unfold Oxm.right; rw [k1]; rfl
   refine FnP.i Tryz.func195 rfl rfl fun G w => ?_
   repeat apply WK.s
   refine WK.G 100 Tryz.ntmps195 ?_
   intro A hA Q hQ
   simp [Oxm.enc]
   apply hQ
   clear hQ hA
   repeat apply WK.s
   refine WK.ghost (Ghost.frzVar 1 rfl rfl) ?_
   refine WK.G 200 Tryz.ntmps195 ?_
   intro A hA Q hQ
   simp
   refine RunQ.call rfl rfl rfl rfl (by rfl) (by simp (config := zd) [k1]) (rfright_c o.field) (by simp [k1]) ?_
   refine RunQ.eval ?_
   simp [k1]
   apply hQ
   clear hQ hA
   refine WK.c2 rfl (fun h => ?_) (fun h => ?_)
   · repeat apply WK.s
     refine WK.G 300 Tryz.ntmps195 ?_
     intro A hA Q hQ
     simp
     apply hQ
     clear hQ hA
     refine WK.t Tryz.func195 (by simp (config := zd) [Tryz.results195, e]) (by simp [e])
   · cases h
 cases k4 : (o.value.less A0).zero
 · rw [k4] at hz1
   have e : Oxm.right o = false := by unfold Oxm.right Oxm.form; rw [eb, k4]; simp
   refine FnP.i Tryz.func195 rfl rfl fun G w => ?_
   repeat apply WK.s
   refine WK.G 100 Tryz.ntmps195 ?_
   intro A hA Q hQ
   simp [Oxm.enc]
   apply hQ
   clear hQ hA
   repeat apply WK.s
   refine WK.ghost (Ghost.frzVar 1 rfl rfl) ?_
   refine WK.G 200 Tryz.ntmps195 ?_
   intro A hA Q hQ
   simp
   refine RunQ.call rfl rfl rfl rfl (by rfl) (by simp (config := zd) [k1]) (rfright_c o.field) (by simp [k1]) ?_
   refine RunQ.eval ?_
   simp [k1]
   apply hQ
   clear hQ hA
   refine WK.c2 rfl (fun h => ?_) (fun h => ?_)
   · cases h
   repeat (first | apply WK.s | apply WK.k)
   refine WK.G 300 Tryz.ntmps195 ?_
   intro A hA Q hQ
   simp
   refine RunQ.call rfl rfl rfl rfl (by rfl) (by simp (config := zd)) (rfbits_c o.field) (by simp) ?_
   refine RunQ.eval ?_
   simp
   refine RunQ.call rfl rfl rfl rfl (by rfl) (by simp (config := zd)) (hlow) (by simp) ?_
   refine RunQ.eval ?_
   simp
   apply hQ
   clear hQ hA
   repeat apply WK.s
   refine WK.ghost (Ghost.frzVar 3 rfl rfl) ?_
   refine WK.G 400 Tryz.ntmps195 ?_
   intro A hA Q hQ
   simp
   refine RunQ.call rfl rfl rfl rfl (by rfl) (by simp (config := zd)) (hl1) (by simp) ?_
   refine RunQ.eval ?_
   simp
   refine RunQ.call rfl rfl rfl rfl (by rfl) (by simp (config := zd)) (hz1) (by simp) ?_
   refine RunQ.eval ?_
   simp
   apply hQ
   clear hQ hA
   refine WK.c2 rfl (fun h => ?_) (fun h => ?_)
   · repeat apply WK.s
     refine WK.G 500 Tryz.ntmps195 ?_
     intro A hA Q hQ
     simp
     apply hQ
     clear hQ hA
     refine WK.t Tryz.func195 (by simp (config := zd) [Tryz.results195, e]) (by simp [e])
   · cases h
 rw [k4] at hz1
 cases k2 : o.masked
 · have e : Oxm.right o = o.mask.zero := by unfold Oxm.right Oxm.form; rw [eb, k1, k2, k4]; cases o.mask.zero <;> rfl
   refine FnP.i Tryz.func195 rfl rfl fun G w => ?_
   repeat apply WK.s
   refine WK.G 100 Tryz.ntmps195 ?_
   intro A hA Q hQ
   simp [Oxm.enc, k2]
   apply hQ
   clear hQ hA
   repeat apply WK.s
   refine WK.ghost (Ghost.frzVar 1 rfl rfl) ?_
   refine WK.G 200 Tryz.ntmps195 ?_
   intro A hA Q hQ
   simp
   refine RunQ.call rfl rfl rfl rfl (by rfl) (by simp (config := zd) [k1]) (rfright_c o.field) (by simp [k1]) ?_
   refine RunQ.eval ?_
   simp [k1]
   apply hQ
   clear hQ hA
   refine WK.c2 rfl (fun h => ?_) (fun h => ?_)
   · cases h
   repeat (first | apply WK.s | apply WK.k)
   refine WK.G 300 Tryz.ntmps195 ?_
   intro A hA Q hQ
   simp
   refine RunQ.call rfl rfl rfl rfl (by rfl) (by simp (config := zd)) (rfbits_c o.field) (by simp) ?_
   refine RunQ.eval ?_
   simp
   refine RunQ.call rfl rfl rfl rfl (by rfl) (by simp (config := zd)) (hlow) (by simp) ?_
   refine RunQ.eval ?_
   simp
   apply hQ
   clear hQ hA
   repeat apply WK.s
   refine WK.ghost (Ghost.frzVar 3 rfl rfl) ?_
   refine WK.G 400 Tryz.ntmps195 ?_
   intro A hA Q hQ
   simp
   refine RunQ.call rfl rfl rfl rfl (by rfl) (by simp (config := zd)) (hl1) (by simp) ?_
   refine RunQ.eval ?_
   simp
   refine RunQ.call rfl rfl rfl rfl (by rfl) (by simp (config := zd)) (hz1) (by simp) ?_
   refine RunQ.eval ?_
   simp
   apply hQ
   clear hQ hA
   refine WK.c2 rfl (fun h => ?_) (fun h => ?_)
   · cases h
   repeat (first | apply WK.s | apply WK.k)
   refine WK.G 500 Tryz.ntmps195 ?_
   intro A hA Q hQ
   simp
   apply hQ
   clear hQ hA
   refine WK.c2 rfl (fun h => ?_) (fun h => ?_)
   · repeat apply WK.s
     refine WK.G 600 Tryz.ntmps195 ?_
     intro A hA Q hQ
     simp
     refine RunQ.call rfl rfl rfl rfl (by rfl) (by simp (config := zd)) (hm) (by simp) ?_
     refine RunQ.eval ?_
     simp
     apply hQ
     clear hQ hA
     refine WK.t Tryz.func195 (by simp (config := zd) [Tryz.results195, e]) (by simp [e])
   · cases h
 · have e : Oxm.right o = (fMasks o.field && (!o.mask.zero && ((o.mask.less A0).zero && (o.value.less o.mask).zero))) := by
     unfold Oxm.right Oxm.form; rw [eb, eb, k1, k2, k4]
     cases fMasks o.field <;> cases o.mask.zero <;> cases (o.mask.less A0).zero <;> cases (o.value.less o.mask).zero <;> rfl
   refine FnP.i Tryz.func195 rfl rfl fun G w => ?_
   repeat apply WK.s
   refine WK.G 100 Tryz.ntmps195 ?_
   intro A hA Q hQ
   simp [Oxm.enc, k2]
   apply hQ
   clear hQ hA
   repeat apply WK.s
   refine WK.ghost (Ghost.frzVar 1 rfl rfl) ?_
   refine WK.G 200 Tryz.ntmps195 ?_
   intro A hA Q hQ
   simp
   refine RunQ.call rfl rfl rfl rfl (by rfl) (by simp (config := zd) [k1]) (rfright_c o.field) (by simp [k1]) ?_
   refine RunQ.eval ?_
   simp [k1]
   apply hQ
   clear hQ hA
   refine WK.c2 rfl (fun h => ?_) (fun h => ?_)
   · cases h
   repeat (first | apply WK.s | apply WK.k)
   refine WK.G 300 Tryz.ntmps195 ?_
   intro A hA Q hQ
   simp
   refine RunQ.call rfl rfl rfl rfl (by rfl) (by simp (config := zd)) (rfbits_c o.field) (by simp) ?_
   refine RunQ.eval ?_
   simp
   refine RunQ.call rfl rfl rfl rfl (by rfl) (by simp (config := zd)) (hlow) (by simp) ?_
   refine RunQ.eval ?_
   simp
   apply hQ
   clear hQ hA
   repeat apply WK.s
   refine WK.ghost (Ghost.frzVar 3 rfl rfl) ?_
   refine WK.G 400 Tryz.ntmps195 ?_
   intro A hA Q hQ
   simp
   refine RunQ.call rfl rfl rfl rfl (by rfl) (by simp (config := zd)) (hl1) (by simp) ?_
   refine RunQ.eval ?_
   simp
   refine RunQ.call rfl rfl rfl rfl (by rfl) (by simp (config := zd)) (hz1) (by simp) ?_
   refine RunQ.eval ?_
   simp
   apply hQ
   clear hQ hA
   refine WK.c2 rfl (fun h => ?_) (fun h => ?_)
   · cases h
   repeat (first | apply WK.s | apply WK.k)
   refine WK.G 500 Tryz.ntmps195 ?_
   intro A hA Q hQ
   simp
   apply hQ
   clear hQ hA
   refine WK.c2 rfl (fun h => ?_) (fun h => ?_)
   · cases h
   cases m1 : fMasks o.field
   · rw [m1, Bool.false_and] at e
     repeat (first | apply WK.s | apply WK.k)
     refine WK.G 600 Tryz.ntmps195 ?_
     intro A hA Q hQ
     have hg3 : (A[3]?).bind (·.dst) = some 27 := by rw [hA]; rfl
     have hg9 : (A[9]?).bind (·.dst) = some 33 := by rw [hA]; rfl
     have hg16 : (A[16]?).bind (·.dst) = some 40 := by rw [hA]; rfl
     simp [hg3, hg9, hg16]
     refine RunQ.call rfl rfl rfl rfl (by rfl) (by simp (config := zd) [m1, hg3, hg9, hg16]) (rfmasks_c o.field) (by simp [m1, hg3, hg9, hg16]) ?_
     refine RunQ.eval ?_
     simp [m1, hg3, hg9, hg16]
     apply hQ
     clear hQ hA
     refine WK.t Tryz.func195 (by simp (config := zd) [Tryz.results195, e]) (by simp [e])
   rw [m1, Bool.true_and] at e
   cases m2 : o.mask.zero
   case true =>
     rw [m2] at hm e
     repeat (first | apply WK.s | apply WK.k)
     refine WK.G 700 Tryz.ntmps195 ?_
     intro A hA Q hQ
     have hg3 : (A[3]?).bind (·.dst) = some 27 := by rw [hA]; rfl
     have hg9 : (A[9]?).bind (·.dst) = some 33 := by rw [hA]; rfl
     have hg16 : (A[16]?).bind (·.dst) = some 40 := by rw [hA]; rfl
     simp [hg3, hg9, hg16]
     refine RunQ.call rfl rfl rfl rfl (by rfl) (by simp (config := zd) [m1, hg3, hg9, hg16]) (rfmasks_c o.field) (by simp [m1, hg3, hg9, hg16]) ?_
     refine RunQ.eval ?_
     simp [m1, hg3, hg9, hg16]
     refine RunQ.callG rfl rfl (by simp [hg3, hg9, hg16]) rfl (by rfl) (by simp (config := zd) [hg3, hg9, hg16]) (hm) (by simp [hg3, hg9, hg16]) ?_
     refine RunQ.eval ?_
     simp [hg3, hg9, hg16]
     apply hQ
     clear hQ hA
     refine WK.t Tryz.func195 (by simp (config := zd) [Tryz.results195, e]) (by simp [e])
   rw [m2] at hm e
   rw [Bool.not_false, Bool.true_and] at e
   cases m3 : (o.mask.less A0).zero
   · rw [m3] at hz2 e
     rw [Bool.false_and] at e
     repeat (first | apply WK.s | apply WK.k)
     refine WK.G 800 Tryz.ntmps195 ?_
     intro A hA Q hQ
     have hg3 : (A[3]?).bind (·.dst) = some 27 := by rw [hA]; rfl
     have hg9 : (A[9]?).bind (·.dst) = some 33 := by rw [hA]; rfl
     have hg16 : (A[16]?).bind (·.dst) = some 40 := by rw [hA]; rfl
     simp [hg3, hg9, hg16]
     refine RunQ.call rfl rfl rfl rfl (by rfl) (by simp (config := zd) [m1, hg3, hg9, hg16]) (rfmasks_c o.field) (by simp [m1, hg3, hg9, hg16]) ?_
     refine RunQ.eval ?_
     simp [m1, hg3, hg9, hg16]
     refine RunQ.callG rfl rfl (by simp [hg3, hg9, hg16]) rfl (by rfl) (by simp (config := zd) [hg3, hg9, hg16]) (hm) (by simp [hg3, hg9, hg16]) ?_
     refine RunQ.eval ?_
     simp [hg3, hg9, hg16]
     refine RunQ.callG rfl rfl (by simp [hg9, hg16]) rfl (by rfl) (by simp (config := zd) [hg9, hg16]) (hl2) (by simp [hg9, hg16]) ?_
     refine RunQ.eval ?_
     simp [hg9, hg16]
     refine RunQ.callG rfl rfl (by simp [hg9, hg16]) rfl (by rfl) (by simp (config := zd) [hg9, hg16]) (hz2) (by simp [hg9, hg16]) ?_
     refine RunQ.eval ?_
     simp [hg9, hg16]
     apply hQ
     clear hQ hA
     refine WK.t Tryz.func195 (by simp (config := zd) [Tryz.results195, e]) (by simp [e])
   · rw [m3] at hz2 e
     rw [Bool.true_and] at e
     repeat (first | apply WK.s | apply WK.k)
     refine WK.G 900 Tryz.ntmps195 ?_
     intro A hA Q hQ
     have hg3 : (A[3]?).bind (·.dst) = some 27 := by rw [hA]; rfl
     have hg9 : (A[9]?).bind (·.dst) = some 33 := by rw [hA]; rfl
     have hg16 : (A[16]?).bind (·.dst) = some 40 := by rw [hA]; rfl
     simp [hg3, hg9, hg16]
     refine RunQ.call rfl rfl rfl rfl (by rfl) (by simp (config := zd) [m1, hg3, hg9, hg16]) (rfmasks_c o.field) (by simp [m1, hg3, hg9, hg16]) ?_
     refine RunQ.eval ?_
     simp [m1, hg3, hg9, hg16]
     refine RunQ.callG rfl rfl (by simp [hg3, hg9, hg16]) rfl (by rfl) (by simp (config := zd) [hg3, hg9, hg16]) (hm) (by simp [hg3, hg9, hg16]) ?_
     refine RunQ.eval ?_
     simp [hg3, hg9, hg16]
     refine RunQ.callG rfl rfl (by simp [hg9, hg16]) rfl (by rfl) (by simp (config := zd) [hg9, hg16]) (hl2) (by simp [hg9, hg16]) ?_
     refine RunQ.eval ?_
     simp [hg9, hg16]
     refine RunQ.callG rfl rfl (by simp [hg9, hg16]) rfl (by rfl) (by simp (config := zd) [hg9, hg16]) (hz2) (by simp [hg9, hg16]) ?_
     refine RunQ.eval ?_
     simp [hg9, hg16]
     refine RunQ.callG rfl rfl (by simp [hg16]) rfl (by rfl) (by simp (config := zd) [hg16]) (hl3) (by simp [hg16]) ?_
     refine RunQ.eval ?_
     simp [hg16]
     refine RunQ.callG rfl rfl (by simp [hg16]) rfl (by rfl) (by simp (config := zd) [hg16]) (hz3) (by simp [hg16]) ?_
     refine RunQ.eval ?_
     simp [hg16]
     apply hQ
     clear hQ hA
     refine WK.t Tryz.func195 (by simp (config := zd) [Tryz.results195, e]) (by simp [e])

theorem nputP_c (b : List (BitVec 8)) (n : Int) (s : Nat) (hs : Sz s) (hb0 : b.length ≤ 1000000) : FnP Tryz.prog 68 [byS b, .int .i64 n, .int .i64 s] (byS (putN b n s)) := by
 have h := (nput_c b n s hs hb0).toP (by simp [byL_take])
 rwa [Nat.mul_one, by_full _ _ rfl] at h
theorem rputP_c (b : List (BitVec 8)) (n : Int) (s : Nat) (hs : Sz s) (hb0 : b.length ≤ 1000000) : FnP Tryz.prog 94 [byS b, .int .i64 n, .int .i64 s] (byS (putN b n s)) := by
 have h := (rput_c b n s hs hb0).toP (by simp [byL_take])
 rwa [Nat.mul_one, by_full _ _ rfl] at h
theorem wputP_c (b : List (BitVec 8)) (a : Wide) (s : Nat) (hs : s ≤ 16) (hb0 : b.length ≤ 1000000) : FnP Tryz.prog 180 [byS b, .agg a.enc, .int .i64 s] (byS (wPut b a s)) := by
 have h := (wput_c b a s hs hb0).toP (by simp [byL_take])
 rwa [Nat.mul_one, by_full _ _ rfl] at h
theorem rwputP_c (b : List (BitVec 8)) (a : Wide) (s : Nat) (hs : s ≤ 16) (hb0 : b.length ≤ 1000000) : FnP Tryz.prog 158 [byS b, .agg a.enc, .int .i64 s] (byS (wPut b a s)) := by
 have h := (rwput_c b a s hs hb0).toP (by simp [byL_take])
 rwa [Nat.mul_one, by_full _ _ rfl] at h
theorem putN_len (b : List (BitVec 8)) (n : Int) (s : Nat) : (putN b n s).length ≤ b.length + s := by
 unfold putN; split
 · rw [List.length_append, beN_len]; omega
 · omega
def oBody (o : Oxm) : List (BitVec 8) := if o.masked then wPut (wPut [] o.value (fSize o.field)) o.mask (fSize o.field) else wPut [] o.value (fSize o.field)
def oNum (o : Oxm) : Int := if o.masked then fID o.field * 2 + 1 else fID o.field * 2
def oHead (o : Oxm) : List (BitVec 8) := putN (putN (putN [] 32768 2) (oNum o) 1) (oBody o).length 1
def oEnc (o : Oxm) : List (BitVec 8) × Int := if Oxm.right o then (oHead o ++ oBody o, 0) else ([], 1)
theorem shl_one (f : Int) : bShl .i64 (fID f) 1 = fID f * 2 := by
 have := (fRow_ok f).1
 unfold bShl fID
 show IntKind.wrap .i64 ((fRow f).1 * 2 ^ 1) = _
 rw [Int.pow_one, wrap_i64 (by omega) (by omega)]
theorem or_one_all : ∀ n : Fin 35, bOr .i64 ((n.val : Int) * 2) 1 = (n.val : Int) * 2 + 1 := by decide +kernel
theorem or_one (f : Int) (h : fRight f = true) : bOr .i64 (fID f * 2) 1 = fID f * 2 + 1 := by
 unfold fRight at h
 rw [Bool.and_eq_true, decide_eq_true_eq, decide_eq_true_eq] at h
 have hp : 0 ≤ fID f ∧ fID f ≤ 34 := by
   unfold fID fRow
   rw [if_pos ⟨h.1, h.2⟩]
   have hl : f.toNat < fRows.length := by show f.toNat < 24; omega
   have : ∀ r, r ∈ fRows → 0 ≤ r.1 ∧ r.1 ≤ 34 := by decide
   exact this _ (nth_mem hl)
 have := or_one_all ⟨(fID f).toNat, by omega⟩
 rwa [show (((⟨(fID f).toNat, by omega⟩ : Fin 35).val : Nat) : Int) = fID f by show (((fID f).toNat : Nat) : Int) = _; omega] at this
theorem right_field {o : Oxm} (h : Oxm.right o = true) : fRight o.field = true := by
 unfold Oxm.right at h
 cases hf : fRight o.field
 · rw [hf] at h; simp at h
 · rfl
theorem oBody_len (o : Oxm) : (oBody o).length = if o.masked then fSize o.field + fSize o.field else fSize o.field := by
 have := fSize_le o.field
 unfold oBody
 split
 · rw [wPut_len _ _ _ this, wPut_len _ _ _ this]; simp
 · rw [wPut_len _ _ _ this]; simp
set_option maxHeartbeats 4000000 in
theorem roenc_c (o : Oxm) : FnP Tryz.prog 155 [.agg o.enc] (.tup [byS (oEnc o).1, .int .i64 (oEnc o).2]) := by
 have hr := roright_c o
 have hsz := fSize_le o.field
 have hid := (fRow_ok o.field).1
 have hbl := oBody_len o
 have w1 : IntKind.i64.wrap (2 * fID o.field) = 2 * fID o.field := by unfold fID; exact wrap_i64 (by omega) (by omega)
 have w2 : IntKind.i64.wrap (2 * fID o.field + 1) = 2 * fID o.field + 1 := by unfold fID; exact wrap_i64 (by omega) (by omega)
 have w3 : IntKind.i64.wrap (2 * (fSize o.field : Int)) = ((2 * fSize o.field : Nat) : Int) := by rw [wrap_i64 (by omega) (by omega)]; omega
 have p1 := rputP_c [] 32768 2 (by unfold Sz; omega) (by simp)
 rw [show byS [] = .sl false 0 [] from rfl] at p1
 have l1 := putN_len [] 32768 2
 simp only [Oxm.enc] at hr
 cases k : Oxm.right o
 · have e : oEnc o = ([], 1) := by unfold oEnc; rw [k]; rfl
   rw [k] at hr
   refine FnP.i Tryz.func155 rfl rfl fun G w => ?_
   repeat apply WK.s
   refine WK.G 100 Tryz.ntmps155 ?_
   intro A hA Q hQ
   simp [Oxm.enc]
   apply hQ
   clear hQ hA
   repeat apply WK.s
   refine WK.ghost (Ghost.frzVar 1 rfl rfl) ?_
   refine WK.G 200 Tryz.ntmps155 ?_
   intro A hA Q hQ
   simp
   refine RunQ.call rfl rfl rfl rfl (by rfl) (by simp (config := zd)) (hr) (by simp) ?_
   refine RunQ.eval ?_
   simp
   apply hQ
   clear hQ hA
   refine WK.c2 rfl (fun h => ?_) (fun h => ?_)
   · repeat apply WK.s
     refine WK.G 300 Tryz.ntmps155 ?_
     intro A hA Q hQ
     simp
     apply hQ
     clear hQ hA
     refine WK.t Tryz.func155 (by simp (config := zd) [Tryz.results155, e, byS, b0_]) (by simp [e, byS, b0_])
   · cases h
 rw [k] at hr
 have e : oEnc o = (oHead o ++ oBody o, 0) := by unfold oEnc; rw [k]; rfl
 obtain ⟨b1, hb1⟩ : ∃ b1, b1 = putN [] 32768 2 := ⟨_, rfl⟩
 rw [← hb1] at p1 l1
 simp only [List.length_nil, Nat.zero_add] at l1
 cases m : o.masked
 · have eb : oBody o = wPut [] o.value (fSize o.field) := by unfold oBody; rw [m]; rfl
   have en : oNum o = 2 * fID o.field := by unfold oNum; rw [m]; exact Int.mul_comm _ _
   rw [m] at hbl
   simp only [Bool.false_eq_true, if_false] at hbl
   have p2 := rputP_c b1 (2 * fID o.field) 1 (by unfold Sz; omega) (by omega)
   have l2 := putN_len b1 (2 * fID o.field) 1
   have p3 := rputP_c (putN b1 (2 * fID o.field) 1) (fSize o.field) 1 (by unfold Sz; omega) (by omega)
   have eh : oHead o = putN (putN b1 (2 * fID o.field) 1) (fSize o.field) 1 := by unfold oHead; rw [hbl, en, hb1]
   have l3 := putN_len (putN b1 (2 * fID o.field) 1) (fSize o.field) 1
   rw [← eh] at p3 l3
   have p4 := rwputP_c (oHead o) o.value (fSize o.field) hsz (by omega)
   have e4 : wPut (oHead o) o.value (fSize o.field) = oHead o ++ oBody o := by rw [eb]; unfold wPut; simp
   rw [e4] at p4
   obtain ⟨b2, hb2⟩ : ∃ b2, b2 = putN b1 (2 * fID o.field) 1 := ⟨_, rfl⟩
   rw [← hb2] at p2 p3
   simp only [Wide.enc] at p4
   rw [m] at hr
   refine FnP.i Tryz.func155 rfl rfl fun G w => ?_
   repeat apply WK.s
   refine WK.G 100 Tryz.ntmps155 ?_
   intro A hA Q hQ
   simp [Oxm.enc, m]
   apply hQ
   clear hQ hA
   repeat apply WK.s
   refine WK.ghost (Ghost.frzVar 1 rfl rfl) ?_
   refine WK.G 200 Tryz.ntmps155 ?_
   intro A hA Q hQ
   simp
   refine RunQ.call rfl rfl rfl rfl (by rfl) (by simp (config := zd)) (hr) (by simp) ?_
   refine RunQ.eval ?_
   simp
   apply hQ
   clear hQ hA
   refine WK.c2 rfl (fun h => ?_) (fun h => ?_)
   · cases h
   repeat (first | apply WK.s | apply WK.k)
   refine WK.G 300 Tryz.ntmps155 ?_
   intro A hA Q hQ
   simp
   refine RunQ.call rfl rfl rfl rfl (by rfl) (by simp (config := zd)) (rfsize_c o.field) (by simp) ?_
   refine RunQ.eval ?_
   simp
   apply hQ
   clear hQ hA
   repeat apply WK.s
   refine WK.G 400 Tryz.ntmps155 ?_
   intro A hA Q hQ
   simp
   refine RunQ.call rfl rfl rfl rfl (by rfl) (by simp (config := zd) [w1]) (rfid_c o.field) (by simp [w1]) ?_
   refine RunQ.eval ?_
   simp [w1]
   apply hQ
   clear hQ hA
   repeat apply WK.s
   refine WK.G 500 Tryz.ntmps155 ?_
   intro A hA Q hQ
   simp
   apply hQ
   clear hQ hA
   refine WK.c2 rfl (fun h => ?_) (fun h => ?_)
   · repeat apply WK.s
     refine WK.G 600 Tryz.ntmps155 ?_
     intro A hA Q hQ
     simp
     refine RunQ.call rfl rfl rfl rfl (by rfl) (by simp (config := zd)) (p1) (by simp) ?_
     refine RunQ.eval ?_
     simp
     refine RunQ.call rfl rfl rfl rfl (by rfl) (by simp (config := zd)) (p2) (by simp) ?_
     refine RunQ.eval ?_
     simp
     refine RunQ.call rfl rfl rfl rfl (by rfl) (by simp (config := zd)) (p3) (by simp) ?_
     refine RunQ.eval ?_
     simp
     apply hQ
     clear hQ hA
     repeat apply WK.s
     refine WK.G 700 Tryz.ntmps155 ?_
     intro A hA Q hQ
     simp
     refine RunQ.call rfl rfl rfl rfl (by rfl) (by simp (config := zd)) (p4) (by simp) ?_
     refine RunQ.eval ?_
     simp
     apply hQ
     clear hQ hA
     refine WK.t Tryz.func155 (by simp (config := zd) [Tryz.results155, e]) (by simp [e])
   · cases h
 · have eb : oBody o = wPut (wPut [] o.value (fSize o.field)) o.mask (fSize o.field) := by unfold oBody; rw [m]; rfl
   have en : oNum o = 2 * fID o.field + 1 := by unfold oNum; rw [m]; show fID o.field * 2 + 1 = _; rw [Int.mul_comm]
   rw [m] at hbl
   simp only [if_true] at hbl
   have hbl' : (oBody o).length = 2 * fSize o.field := by omega
   have p2 := rputP_c b1 (2 * fID o.field + 1) 1 (by unfold Sz; omega) (by omega)
   have l2 := putN_len b1 (2 * fID o.field + 1) 1
   have p3 := rputP_c (putN b1 (2 * fID o.field + 1) 1) (2 * fSize o.field : Nat) 1 (by unfold Sz; omega) (by omega)
   have eh : oHead o = putN (putN b1 (2 * fID o.field + 1) 1) (2 * fSize o.field : Nat) 1 := by unfold oHead; rw [hbl', en, hb1]
   have l3 := putN_len (putN b1 (2 * fID o.field + 1) 1) (2 * fSize o.field : Nat) 1
   rw [← eh] at p3 l3
   have p4 := rwputP_c (oHead o) o.value (fSize o.field) hsz (by omega)
   have l4 := wPut_len (oHead o) o.value (fSize o.field) hsz
   have p5 := rwputP_c (wPut (oHead o) o.value (fSize o.field)) o.mask (fSize o.field) hsz (by omega)
   have e5 : wPut (wPut (oHead o) o.value (fSize o.field)) o.mask (fSize o.field) = oHead o ++ oBody o := by rw [eb]; unfold wPut; simp
   rw [e5] at p5
   obtain ⟨b2, hb2⟩ : ∃ b2, b2 = putN b1 (2 * fID o.field + 1) 1 := ⟨_, rfl⟩
   rw [← hb2] at p2 p3
   obtain ⟨b4, hb4⟩ : ∃ b4, b4 = wPut (oHead o) o.value (fSize o.field) := ⟨_, rfl⟩
   rw [← hb4] at p4 p5
   simp only [Wide.enc] at p4 p5
   rw [m] at hr
   refine FnP.i Tryz.func155 rfl rfl fun G w => ?_
   repeat apply WK.s
   refine WK.G 100 Tryz.ntmps155 ?_
   intro A hA Q hQ
   simp [Oxm.enc, m]
   apply hQ
   clear hQ hA
   repeat apply WK.s
   refine WK.ghost (Ghost.frzVar 1 rfl rfl) ?_
   refine WK.G 200 Tryz.ntmps155 ?_
   intro A hA Q hQ
   simp
   refine RunQ.call rfl rfl rfl rfl (by rfl) (by simp (config := zd)) (hr) (by simp) ?_
   refine RunQ.eval ?_
   simp
   apply hQ
   clear hQ hA
   refine WK.c2 rfl (fun h => ?_) (fun h => ?_)
   · cases h
   repeat (first | apply WK.s | apply WK.k)
   refine WK.G 300 Tryz.ntmps155 ?_
   intro A hA Q hQ
   simp
   refine RunQ.call rfl rfl rfl rfl (by rfl) (by simp (config := zd)) (rfsize_c o.field) (by simp) ?_
   refine RunQ.eval ?_
   simp
   apply hQ
   clear hQ hA
   repeat apply WK.s
   refine WK.G 400 Tryz.ntmps155 ?_
   intro A hA Q hQ
   simp
   refine RunQ.call rfl rfl rfl rfl (by rfl) (by simp (config := zd) [w1]) (rfid_c o.field) (by simp [w1]) ?_
   refine RunQ.eval ?_
   simp [w1]
   apply hQ
   clear hQ hA
   repeat apply WK.s
   refine WK.G 500 Tryz.ntmps155 ?_
   intro A hA Q hQ
   simp
   apply hQ
   clear hQ hA
   refine WK.c2 rfl (fun h => ?_) (fun h => ?_)
   · cases h
   · repeat (first | apply WK.s | apply WK.k)
     refine WK.G 600 Tryz.ntmps155 ?_
     intro A hA Q hQ
     simp
     refine RunQ.call rfl rfl rfl rfl (by rfl) (by simp (config := zd) [w2]) (p1) (by simp [w2]) ?_
     refine RunQ.eval ?_
     simp [w2]
     refine RunQ.call rfl rfl rfl rfl (by rfl) (by simp (config := zd) [w3]) (p2) (by simp [w3]) ?_
     refine RunQ.eval ?_
     simp [w3]
     refine RunQ.call rfl rfl rfl rfl (by rfl) (by simp (config := zd)) (p3) (by simp) ?_
     refine RunQ.eval ?_
     simp
     apply hQ
     clear hQ hA
     repeat apply WK.s
     refine WK.D 700 Tryz.ntmps155 ?_
     intro A hA Q hQ
     simp
     refine RunQ.call rfl rfl rfl rfl (by rfl) (by simp (config := zd)) (p4) (by simp) ?_
     refine RunQ.eval ?_
     simp
     refine RunQ.call rfl rfl rfl rfl (by rfl) (by simp (config := zd)) (p5) (by simp) ?_
     refine RunQ.eval ?_
     simp
     apply hQ
     clear hQ hA
     refine WK.t Tryz.func155 (by simp (config := zd) [Tryz.results155, e]) (by simp [e])
set_option maxHeartbeats 4000000 in
theorem oenc_c (o : Oxm) : FnP Tryz.prog 132 [.agg o.enc] (.tup [byS (oEnc o).1, .int .i64 (oEnc o).2]) := by
 have hr := oright_c o
 have hsz := fSize_le o.field
 have hid := (fRow_ok o.field).1
 have hbl := oBody_len o
 have hsh := shl_one o.field
 have p1 := nputP_c [] 32768 2 (by unfold Sz; omega) (by simp)
 rw [show byS [] = .sl false 0 [] from rfl] at p1
 have l1 := putN_len [] 32768 2
 have hbl2 : (oBody o).length ≤ 32 := by rw [hbl]; split <;> omega
 simp only [Oxm.enc] at hr
 cases k : Oxm.right o
 · have e : oEnc o = ([], 1) := by unfold oEnc; rw [k]; rfl
   rw [k] at hr
   refine FnP.i Tryz.func132 rfl rfl fun G w => ?_
   repeat apply WK.s
   refine WK.G 100 Tryz.ntmps132 ?_
   intro A hA Q hQ
   simp [Oxm.enc]
   apply hQ
   clear hQ hA
   repeat apply WK.s
   refine WK.ghost (Ghost.frzVar 1 rfl rfl) ?_
   refine WK.G 200 Tryz.ntmps132 ?_
   intro A hA Q hQ
   simp
   refine RunQ.call rfl rfl rfl rfl (by rfl) (by simp (config := zd)) (hr) (by simp) ?_
   refine RunQ.eval ?_
   simp
   apply hQ
   clear hQ hA
   refine WK.c2 rfl (fun h => ?_) (fun h => ?_)
   · repeat apply WK.s
     refine WK.G 300 Tryz.ntmps132 ?_
     intro A hA Q hQ
     simp
     apply hQ
     clear hQ hA
     refine WK.t Tryz.func132 (by simp (config := zd) [Tryz.results132, e, byS, b0_]) (by simp [e, byS, b0_])
   · cases h
 rw [k] at hr
 have e : oEnc o = (oHead o ++ oBody o, 0) := by unfold oEnc; rw [k]; rfl
 have hor := or_one o.field (right_field k)
 obtain ⟨b1, hb1⟩ : ∃ b1, b1 = putN [] 32768 2 := ⟨_, rfl⟩
 rw [← hb1] at p1 l1
 simp only [List.length_nil, Nat.zero_add] at l1
 have p2 := nputP_c b1 (oNum o) 1 (by unfold Sz; omega) (by omega)
 have l2 := putN_len b1 (oNum o) 1
 have p3 := nput_c (putN b1 (oNum o) 1) (oBody o).length 1 (by unfold Sz; omega) (by omega)
 have eh : oHead o = putN (putN b1 (oNum o) 1) (oBody o).length 1 := by unfold oHead; rw [hb1]
 have l3 := putN_len (putN b1 (oNum o) 1) (oBody o).length 1
 rw [← eh] at p3 l3
 obtain ⟨b2, hb2⟩ : ∃ b2, b2 = putN b1 (oNum o) 1 := ⟨_, rfl⟩
 rw [← hb2] at p2 p3
 have q1 := wputP_c [] o.value (fSize o.field) hsz (by simp)
 rw [show byS [] = .sl false 0 [] from rfl] at q1
 have hf := by_full (oBody o) _ rfl
 have hbd : (oHead o).length + (oBody o).length ≤ 140737488355328 := by omega
 have hT : (byL (oHead o) ++ byL (oBody o)).take ((oHead o).length + (oBody o).length) = byL (oHead o) ++ byL (oBody o) := List.take_of_length_le (by simp)
 refine FnP.i Tryz.func132 rfl rfl fun G w => ?_
 repeat apply WK.s
 refine WK.G 100 Tryz.ntmps132 ?_
 intro A hA Q hQ
 simp [Oxm.enc]
 apply hQ
 clear hQ hA
 repeat apply WK.s
 refine WK.ghost (Ghost.frzVar 1 rfl rfl) ?_
 refine WK.G 200 Tryz.ntmps132 ?_
 intro A hA Q hQ
 simp
 refine RunQ.call rfl rfl rfl rfl (by rfl) (by simp (config := zd)) (hr) (by simp) ?_
 refine RunQ.eval ?_
 simp
 apply hQ
 clear hQ hA
 refine WK.c2 rfl (fun h => ?_) (fun h => ?_)
 · cases h
 repeat (first | apply WK.s | apply WK.k)
 refine WK.G 300 Tryz.ntmps132 ?_
 intro A hA Q hQ
 simp
 refine RunQ.call rfl rfl rfl rfl (by rfl) (by simp (config := zd)) (fsize_c o.field) (by simp) ?_
 refine RunQ.eval ?_
 simp
 apply hQ
 clear hQ hA
 repeat apply WK.s
 apply WK.cut (⟨(upd (upd J 5 (.sl false (oBody o).length (byL (oBody o)))) 6 (.int .i64 (oNum o))), B0, 0⟩ : St)
 · intro hcut
   simp only [Wide.enc] at q1
   cases m : o.masked
   · have eb : oBody o = wPut [] o.value (fSize o.field) := by unfold oBody; rw [m]; rfl
     have en : oNum o = fID o.field * 2 := by unfold oNum; rw [m]; rfl
     rw [← eb] at q1
     refine WK.G 400 Tryz.ntmps132 ?_
     intro A hA Q hQ
     simp
     refine RunQ.call rfl rfl rfl rfl (by rfl) (by simp (config := zd)) (q1) (by simp) ?_
     refine RunQ.eval ?_
     simp
     apply hQ
     clear hQ hA
     repeat apply WK.s
     refine WK.G 500 Tryz.ntmps132 ?_
     intro A hA Q hQ
     simp
     refine RunQ.call rfl rfl rfl rfl (by rfl) (by simp (config := zd) [hsh]) (fid_c o.field) (by simp [hsh]) ?_
     refine RunQ.eval ?_
     simp [hsh]
     apply hQ
     clear hQ hA
     repeat apply WK.s
     refine WK.G 600 Tryz.ntmps132 ?_
     intro A hA Q hQ
     simp [m]
     apply hQ
     clear hQ hA
     refine WK.c2 rfl (fun h => ?_) (fun h => ?_)
     · cases h
     · repeat (first | apply WK.s | apply WK.k)
       refine WK.N (fun n => n) hcut (by repeat (first | exact TmW.nil | refine TmW.upd ?_ (by simp (config := zd) [en, byS]))) (by repeat (first | exact BxW.nil | refine BxW.upd ?_ (by simp (config := zd) [en, byS])))
   · have eb : oBody o = wPut (wPut [] o.value (fSize o.field)) o.mask (fSize o.field) := by unfold oBody; rw [m]; rfl
     have en : oNum o = fID o.field * 2 + 1 := by unfold oNum; rw [m]; rfl
     have l4 := wPut_len [] o.value (fSize o.field) hsz
     have q2 := wputP_c (wPut [] o.value (fSize o.field)) o.mask (fSize o.field) hsz (by rw [l4]; simp; omega)
     rw [← eb] at q2
     simp only [Wide.enc] at q2
     obtain ⟨b4, hb4⟩ : ∃ b4, b4 = wPut [] o.value (fSize o.field) := ⟨_, rfl⟩
     rw [← hb4] at q1 q2
     refine WK.G 700 Tryz.ntmps132 ?_
     intro A hA Q hQ
     simp
     refine RunQ.call rfl rfl rfl rfl (by rfl) (by simp (config := zd)) (q1) (by simp) ?_
     refine RunQ.eval ?_
     simp
     apply hQ
     clear hQ hA
     repeat apply WK.s
     refine WK.G 800 Tryz.ntmps132 ?_
     intro A hA Q hQ
     simp
     refine RunQ.call rfl rfl rfl rfl (by rfl) (by simp (config := zd) [hsh]) (fid_c o.field) (by simp [hsh]) ?_
     refine RunQ.eval ?_
     simp [hsh]
     apply hQ
     clear hQ hA
     repeat apply WK.s
     refine WK.G 900 Tryz.ntmps132 ?_
     intro A hA Q hQ
     simp [m]
     apply hQ
     clear hQ hA
     refine WK.c2 rfl (fun h => ?_) (fun h => ?_)
     · repeat apply WK.s
       refine WK.G 1000 Tryz.ntmps132 ?_
       intro A hA Q hQ
       simp
       refine RunQ.call rfl rfl rfl rfl (by rfl) (by simp (config := zd)) (q2) (by simp) ?_
       refine RunQ.eval ?_
       simp
       apply hQ
       clear hQ hA
       refine WK.G 1100 Tryz.ntmps132 ?_
       intro A hA Q hQ
       simp [hor]
       apply hQ
       clear hQ hA
       repeat apply WK.s
       refine WK.N (fun n => n) hcut (by repeat (first | exact TmW.nil | refine TmW.upd ?_ (by simp (config := zd) [en, byS]))) (by repeat (first | exact BxW.nil | refine BxW.upd ?_ (by simp (config := zd) [en, byS])))
     · cases h
 refine WK.G 1200 Tryz.ntmps132 ?_
 intro A hA Q hQ
 simp
 refine RunQ.call rfl rfl rfl rfl (by rfl) (by simp (config := zd)) (p1) (by simp) ?_
 refine RunQ.eval ?_
 simp
 refine RunQ.call rfl rfl rfl rfl (by rfl) (by simp (config := zd)) (p2) (by simp) ?_
 refine RunQ.eval ?_
 simp
 refine RunQ.callO 900 rfl rfl rfl (by simp) (by rfl) (by simp (config := zd)) (p3) (by simp) (by simp) (by simp) ?_
 refine RunQ.eval ?_
 simp
 apply hQ
 clear hQ hA
 repeat apply WK.s
 refine WK.G 1300 Tryz.ntmps132 ?_
 intro A hA Q hQ
 simp
 refine RunQ.append 901 appByte rfl rfl rfl rfl rfl rfl rfl (by simp [hbd, hf]) rfl (by simp [hbd, hf]) (by simp [hbd, hf]) (by simp [hbd, hf]) (by simp [hbd, hf]) ?_
 refine RunQ.eval ?_
 simp [hbd, hf]
 apply hQ
 clear hQ hA
 refine WK.ghost (Ghost.frzSl 2 1 rfl rfl) ?_
 refine WK.t Tryz.func132 (by simp (config := zd) [Tryz.results132, e, byS, byL_app, hT]) (by simp [e, byS, byL_app, hT])

def oxm0 : Oxm := ⟨0, false, wideZ, wideZ⟩
end Go.Proofs.YtmhapglejjehbaaGreat
