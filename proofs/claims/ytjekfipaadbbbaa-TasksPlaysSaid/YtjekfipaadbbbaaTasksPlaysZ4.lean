/- Part of the proof of TasksPlays: see the last text. (Words laid by the print, as far as they are named here; walks written by a program of this project; plain laws.) -/
import Derived.Test.YtjekfipaadbbbaaTasksPlaysZ3
namespace Go.Proofs.Ytjekfipaadbbbaa.Fn
open Go.RowKit Go.Proofs.YtjekfipaadbbbaaW.PrintWords Go.Proofs.YtjekfipaadbbbaaW.PrintLast Go.Proofs.YtjekfipaadbbbaaW.PrintMore
set_option linter.unusedVariables false
set_option linter.unusedSimpArgs false
def DoPost (w0 w' : World) (base g r : Nat) (l : List S44) : Prop := ∃ T' R', TabOK w' base g T' ∧ RTab w' w0 r R' ∧ PI l T' R'
def do4T : Bool × List (List Nat × List Nat) := (true, [([], []), ([], []), ([1], [1]), ([2], [2]), ([0, 3, 3], [0, 3]), ([4, 4], [4]), ([], []), ([], []), ([7], [7]), ([6, 8, 5], [6, 8]), ([5, 9], [5, 9]), ([10, 9, 0, 1, 2, 3, 4, 5, 6, 7, 8, 9, 10], [10])])
def do4B : List Nat := [0, 0, 2, 6, 15, 31, 0, 0, 128, 511, 1023, 2047]
theorem do4_tab : rtab .any (opsOf Try.f48 4) = do4T := by kernel_rfl
theorem do4_bits : waitsOk do4T.2 do4B = true := by kernel_rfl
section
variable {w w0 : World} {base g r : Nat} {T : TD} {R : RD} {l : List S44}
set_option maxHeartbeats 32000000 in
set_option maxRecDepth 100000 in
theorem do_put0_out (hT : TabOK w base g T) (hR : RTab w w0 r R) (hb0 : w0.heap.size ≤ base) (hP : PI l T R) (kk arr wrk : Int) (A : Option Addr) (c : Nat) (xs : List S134) (hC : Kd.C k134 w0 A xs.length xs) (hc : xs.length ≤ c) (h70 : xs.length ≤ 70) (tsk dn : Int) (hk : ¬ (0 ≤ tsk ∧ tsk < T.sl.length)) : Calls Try.prog 48 #[.pointer (some ⟨g, 0, none⟩), .pointer (some ⟨r, 0, none⟩), .agg #[.int .i64 0, .int .i64 kk, .int .i64 tsk, .int .i64 arr, .int .i64 wrk, .int .i64 dn, .slice A xs.length c]] w fun e w' => e = .returned (.bool true) ∧ DoPost w0 w' base g r l := by
 have hlen : R.K.length = T.sl.length := by rw [hP.K, hP.len]
 have HK := asd hk
 have HNB : Aside0 (¬ (0 ≤ tsk ∧ tsk < R.K.length ∧ rjob arr wrk dn (xs.map jop) = true)) := ⟨fun q => hk ⟨q.1, by rw [← hlen]; exact q.2.1⟩⟩
 clear hk hlen
 have hu65 := Try.underlying65
 have hu63 := Try.underlying63
 have hu76 := Try.underlying76
 have hu134 := Try.underlying134
 have hu90 := Try.underlying90
 have ZA := asd (heap_alloc_new w (.cells #[.int .i64 0, .int .i64 kk, .int .i64 tsk, .int .i64 arr, .int .i64 wrk, .int .i64 dn, .slice A xs.length c] 65))
 have HB := below_alloc (Below.refl w.heap.size w) (.cells #[.int .i64 0, .int .i64 kk, .int .i64 tsk, .int .i64 arr, .int .i64 wrk, .int .i64 dn, .slice A xs.length c] 65)
 have HT := asd (hT.below HB)
 have HR := asd (hR.below HB)
 have HP := asd hP
 have HB0 := asd hb0
 have SLT : Aside0 (¬ T.S g w.heap.size) := ⟨fun q => Nat.lt_irrefl _ (hT.lt _ q)⟩
 have SNR : Aside0 (w.heap.size ≠ r) := ⟨fun q => by have := blk_lt hR.blk; omega⟩
 have CX := asd (And.intro hC (And.intro hc h70))
 clear hT hR hP hb0 hC hc h70 HB
 have a0 := (blk_cell ZA.out 0).trans rfl
 go_enter Try.func48, Try.ntmps48
 go_wp2
 generalize w.alloc (.cells #[.int .i64 0, .int .i64 kk, .int .i64 tsk, .int .i64 arr, .int .i64 wrk, .int .i64 dn, .slice A xs.length c] 65) = wa at ZA HT HR ⊢
 generalize w.heap.size = s at ZA SLT SNR ⊢
 clear a0
 refine start_ (n := 12) (S := fun w' => w'.cell? ⟨s, 2, none⟩ = some (.int .i64 tsk) ∧ w'.cell? ⟨s, 3, none⟩ = some (.int .i64 arr) ∧ w'.cell? ⟨s, 4, none⟩ = some (.int .i64 wrk) ∧ w'.cell? ⟨s, 5, none⟩ = some (.int .i64 dn) ∧ w'.cell? ⟨s, 6, none⟩ = some (.slice A xs.length c)) (ds := [9]) #[false, false, false, false, false, false, false, false, false, false, false, false] (by kernel_rfl) rfl rfl ⟨(blk_cell ZA.out 2).trans rfl, (blk_cell ZA.out 3).trans rfl, (blk_cell ZA.out 4).trans rfl, (blk_cell ZA.out 5).trans rfl, (blk_cell ZA.out 6).trans rfl⟩ (fun hHeld => ?_); refine with_tabW do4_tab do4_bits (fun HT_ HW_ => ?_)
 have ZAa := asd (blk_drew ZA.out)
 have HTa := asd (HT.out.drew)
 have HRa := asd (HR.out.drew)
 clear HT HR
 generalize wa.drew = wb at ZAa HTa HRa hHeld ⊢
 refine pure_ (i := 0) (N := (some 19)) (v := ?_) (a' := ?_) #[true, false, false, false, false, false, false, false, false, false, false, false] rfl rfl (any_of HT_.out (by kernel_rfl)) (fun _ _ _ h => h) (Or.inl ⟨by rfl, ?_⟩) ?_ ?_
 rotate_left
 ·intro w'
  go_simp
  with_reducible rfl
 rotate_left
 ·simp only [Act.put, sB, i64_w, i32_w]
  rfl
 refine pure_ (i := 1) (N := (some 20)) (v := ?_) (a' := ?_) #[true, true, false, false, false, false, false, false, false, false, false, false] rfl rfl (any_of HT_.out (by kernel_rfl)) (fun _ _ _ h => h) (Or.inl ⟨by rfl, ?_⟩) ?_ ?_
 rotate_left
 ·intro w'
  go_simp
  with_reducible rfl
 rotate_left
 ·simp only [Act.put, sB, i64_w, i32_w]
  rfl
 refine take_ (i := 2) (N := (some 21)) (v := ?_) (a' := ?_) #[true, true, true, false, false, false, false, false, false, false, false, false] rfl rfl (take_ofW HT_.out HW_.out (by kernel_rfl)) (fun _ _ _ h => h) (Or.inl ⟨by rfl, ?_⟩) hHeld ?_ ?_
 rotate_left
 ·rintro w' ⟨s0, s1, s2, s3, s4⟩
  go_simp
  with_reducible rfl
 rotate_left
 ·simp only [Act.put, sB, i64_w, i32_w]
  rfl
 refine pure_ (i := 6) (N := (some 25)) (v := ?_) (a' := ?_) #[true, true, true, false, false, false, true, false, false, false, false, false] rfl rfl (any_of HT_.out (by kernel_rfl)) (fun _ _ _ h => h) (Or.inl ⟨by rfl, ?_⟩) ?_ ?_
 rotate_left
 ·intro w'
  go_simp
  with_reducible rfl
 rotate_left
 ·simp only [Act.put, sB, i64_w, i32_w]
  rfl
 refine pure_ (i := 7) (N := (some 26)) (v := ?_) (a' := ?_) #[true, true, true, false, false, false, true, true, false, false, false, false] rfl rfl (any_of HT_.out (by kernel_rfl)) (fun _ _ _ h => h) (Or.inl ⟨by rfl, ?_⟩) ?_ ?_
 rotate_left
 ·intro w'
  go_simp
  with_reducible rfl
 rotate_left
 ·simp only [Act.put, sB, i64_w, i32_w]
  rfl
 refine take_ (i := 8) (N := (some 27)) (v := ?_) (a' := ?_) #[true, true, true, false, false, false, true, true, true, false, false, false] rfl rfl (take_ofW HT_.out HW_.out (by kernel_rfl)) (fun _ _ _ h => h) (Or.inl ⟨by rfl, ?_⟩) hHeld ?_ ?_
 rotate_left
 ·rintro w' ⟨s0, s1, s2, s3, s4⟩
  go_simp
  with_reducible rfl
 rotate_left
 ·simp only [Act.put, sB, i64_w, i32_w]
  rfl
 refine one_ (i := 3) (N := (some 22)) #[true, true, true, true, false, false, true, true, true, false, false, false] rfl rfl (one_of HT_.out (by kernel_rfl)) (by decide) (fun K hK => ?_)
 refine goes_ Try.func39 (by kernel_rfl) rfl #[.agg #[.int .i64 tsk, .int .i64 arr, .int .i64 wrk, .int .i64 dn, .slice A xs.length c]] (by rfl) rfl rfl (by simp [Act.eval]) ?_
 refine (job_calls tsk arr wrk dn A c xs wb (Kd.C_below CX.out.1 HRa.out.fr) CX.out.2.1 (by have := CX.out.2.2; omega)).mono ?_
 rintro e wc ⟨v, rfl, hv, hb⟩
 obtain ⟨Av, cv, rfl⟩ := Kd.R_slice hv
 have HV := asd (And.intro (C_ofR hv) (Kd.R_reads' hv).2.1)
 have HTc := asd (HTa.out.below hb)
 have HRc := asd (HRa.out.below hb)
 have ZAc := asd (blk_below ZAa.out hb)
 clear hv hb HTa HRa ZAa
 refine ⟨_, rfl, ?_⟩
 refine hK.out _ _ ⟨(blk_cell ZAc.out 2).trans rfl, (blk_cell ZAc.out 3).trans rfl, (blk_cell ZAc.out 4).trans rfl, (blk_cell ZAc.out 5).trans rfl, (blk_cell ZAc.out 6).trans rfl⟩ (fun hHeld => ?_)
 clear hK K
 refine norm_ (a' := ?_) ?_ ?_
 rotate_left
 ·show Act.put _ (some 22) _ = _
  simp only [Act.put, sB, i64_w, i32_w]
  rfl
 refine one_ (i := 4) (N := (some 23)) #[true, true, true, true, true, false, true, true, true, false, false, false] rfl rfl (one_of HT_.out (by kernel_rfl)) (by decide) (fun K hK => ?_)
 refine goes_ Try.func38 (by kernel_rfl) rfl #[.pointer (some ⟨g, 0, none⟩), .agg #[.int .i64 tsk, .int .i64 arr, .int .i64 wrk, .int .i64 dn, .slice Av (xs.map jop).length cv]] (by rfl) rfl rfl (by simp [Act.eval]) ?_
 refine (tput_out HTc.out tsk arr wrk dn Av cv (xs.map jop) HK.out).mono ?_
 rintro e wd ⟨rfl, hb⟩
 have HTd := asd (HTc.out.below hb)
 have HRd := asd (HRc.out.below hb)
 have ZAd := asd (blk_below ZAc.out hb)
 clear hb HTc HRc ZAc
 refine ⟨_, rfl, ?_⟩
 refine hK.out _ _ ⟨(blk_cell ZAd.out 2).trans rfl, (blk_cell ZAd.out 3).trans rfl, (blk_cell ZAd.out 4).trans rfl, (blk_cell ZAd.out 5).trans rfl, (blk_cell ZAd.out 6).trans rfl⟩ (fun hHeld => ?_)
 clear hK K
 refine norm_ (a' := ?_) ?_ ?_
 rotate_left
 ·show Act.put _ (some 23) _ = _
  simp only [Act.put, sB, i64_w, i32_w]
  rfl
 refine one_ (i := 5) (N := (some 24)) #[true, true, true, true, true, true, true, true, true, false, false, false] rfl rfl (one_of HT_.out (by kernel_rfl)) (by decide) (fun K hK => ?_)
 refine goes_ Try.func37 (by kernel_rfl) rfl #[.int .i64 1] (by rfl) rfl rfl (by simp [Act.eval]) ?_
 refine (parcloselaw19_num.calls _ _ _ rfl).mono ?_
 rintro e we ⟨rfl, hd⟩
 have HTe := asd (HTd.out.below hd.below)
 have HRe := asd (HRd.out.below hd.below)
 have ZAe := asd (blk_below ZAd.out hd.below)
 clear hd HTd HRd ZAd
 refine ⟨_, rfl, ?_⟩
 refine hK.out _ _ ⟨(blk_cell ZAe.out 2).trans rfl, (blk_cell ZAe.out 3).trans rfl, (blk_cell ZAe.out 4).trans rfl, (blk_cell ZAe.out 5).trans rfl, (blk_cell ZAe.out 6).trans rfl⟩ (fun hHeld => ?_)
 clear hK K
 refine norm_ (a' := ?_) ?_ ?_
 rotate_left
 ·show Act.put _ (some 24) _ = _
  simp only [Act.put, sB, i64_w, i32_w]
  rfl
 refine last_ (i := 9) (N := (some 28)) #[true, true, true, true, true, true, true, true, true, true, false, false] rfl rfl (one_of HT_.out (by kernel_rfl)) (by decide) (fun K hK => ?_)
 refine goes_ Try.func92 (by kernel_rfl) rfl #[.pointer (some ⟨r, 0, none⟩), .agg #[.int .i64 tsk, .int .i64 arr, .int .i64 wrk, .int .i64 dn, .slice A xs.length c]] (by rfl) rfl rfl (by simp [Act.eval]) ?_
 refine (rput_bad HRe.out tsk arr wrk dn A c xs HNB.out).mono ?_
 rintro e wf ⟨rfl, hb⟩
 have HTf := asd (HTe.out.below hb)
 have HRf := asd (HRe.out.below hb)
 clear hb HTe HRe ZAe
 refine ⟨_, rfl, ?_⟩
 refine hK.out _ _ ?_
 clear hK K
 refine norm_ (a' := ?_) ?_ ?_
 rotate_left
 ·show Act.put _ (some 28) _ = _
  simp only [Act.put, sB, i64_w, i32_w]
  rfl
 refine pure_ (i := 10) (N := (some 29)) (v := ?_) (a' := ?_) #[true, true, true, true, true, true, true, true, true, true, true, false] rfl rfl (any_of HT_.out (by kernel_rfl)) (fun _ _ _ h => h) (Or.inl ⟨by rfl, ?_⟩) ?_ ?_
 rotate_left
 ·intro w'
  go_simp
  with_reducible rfl
 rotate_left
 ·simp only [Act.put, sB, i64_w, i32_w]
  rfl
 refine pure_ (i := 11) (N := (some 6)) (v := ?_) (a' := ?_) #[true, true, true, true, true, true, true, true, true, true, true, true] rfl rfl (any_of HT_.out (by kernel_rfl)) (fun _ _ _ h => h) (Or.inl ⟨by rfl, ?_⟩) ?_ ?_
 rotate_left
 ·intro w'
  go_simp
  with_reducible rfl
 rotate_left
 ·simp only [Act.put, sB, i64_w, i32_w]
  rfl
 refine done_ (done_of HT_.out (by kernel_rfl)) ?_
 try go_wp2
 go_ret
 exact ⟨rfl, T, R, HTf.out, HRf.out, HP.out⟩
set_option maxHeartbeats 32000000 in
set_option maxRecDepth 100000 in
theorem do_put0_bad (hT : TabOK w base g T) (hR : RTab w w0 r R) (hb0 : w0.heap.size ≤ base) (hP : PI l T R) (kk arr wrk : Int) (A : Option Addr) (c : Nat) (xs : List S134) (hC : Kd.C k134 w0 A xs.length xs) (hc : xs.length ≤ c) (h70 : xs.length ≤ 70) (k : Nat) (dn : Int) (hk : k < T.sl.length) (hj : rjob arr wrk dn (xs.map jop) = false) : Calls Try.prog 48 #[.pointer (some ⟨g, 0, none⟩), .pointer (some ⟨r, 0, none⟩), .agg #[.int .i64 0, .int .i64 kk, .int .i64 (k : Int), .int .i64 arr, .int .i64 wrk, .int .i64 dn, .slice A xs.length c]] w fun e w' => e = .returned (.bool true) ∧ DoPost w0 w' base g r l := by
 have hlen : R.K.length = T.sl.length := by rw [hP.K, hP.len]
 have HK := asd hk
 have HJ := asd hj
 have HNB : Aside0 (¬ (0 ≤ (k : Int) ∧ (k : Int) < R.K.length ∧ rjob arr wrk dn (xs.map jop) = true)) := ⟨fun q => by rw [hj] at q; exact absurd q.2.2 (by simp)⟩
 clear hk hj hlen
 have hu65 := Try.underlying65
 have hu63 := Try.underlying63
 have hu76 := Try.underlying76
 have hu134 := Try.underlying134
 have hu90 := Try.underlying90
 have ZA := asd (heap_alloc_new w (.cells #[.int .i64 0, .int .i64 kk, .int .i64 (k : Int), .int .i64 arr, .int .i64 wrk, .int .i64 dn, .slice A xs.length c] 65))
 have HB := below_alloc (Below.refl w.heap.size w) (.cells #[.int .i64 0, .int .i64 kk, .int .i64 (k : Int), .int .i64 arr, .int .i64 wrk, .int .i64 dn, .slice A xs.length c] 65)
 have HT := asd (hT.below HB)
 have HR := asd (hR.below HB)
 have HP := asd hP
 have HB0 := asd hb0
 have SLT : Aside0 (¬ T.S g w.heap.size) := ⟨fun q => Nat.lt_irrefl _ (hT.lt _ q)⟩
 have SNR : Aside0 (w.heap.size ≠ r) := ⟨fun q => by have := blk_lt hR.blk; omega⟩
 have CX := asd (And.intro hC (And.intro hc h70))
 clear hT hR hP hb0 hC hc h70 HB
 have a0 := (blk_cell ZA.out 0).trans rfl
 go_enter Try.func48, Try.ntmps48
 go_wp2
 generalize w.alloc (.cells #[.int .i64 0, .int .i64 kk, .int .i64 (k : Int), .int .i64 arr, .int .i64 wrk, .int .i64 dn, .slice A xs.length c] 65) = wa at ZA HT HR ⊢
 generalize w.heap.size = s at ZA SLT SNR ⊢
 clear a0
 refine start_ (n := 12) (S := fun w' => w'.cell? ⟨s, 2, none⟩ = some (.int .i64 (k : Int)) ∧ w'.cell? ⟨s, 3, none⟩ = some (.int .i64 arr) ∧ w'.cell? ⟨s, 4, none⟩ = some (.int .i64 wrk) ∧ w'.cell? ⟨s, 5, none⟩ = some (.int .i64 dn) ∧ w'.cell? ⟨s, 6, none⟩ = some (.slice A xs.length c)) (ds := [9]) #[false, false, false, false, false, false, false, false, false, false, false, false] (by kernel_rfl) rfl rfl ⟨(blk_cell ZA.out 2).trans rfl, (blk_cell ZA.out 3).trans rfl, (blk_cell ZA.out 4).trans rfl, (blk_cell ZA.out 5).trans rfl, (blk_cell ZA.out 6).trans rfl⟩ (fun hHeld => ?_); refine with_tabW do4_tab do4_bits (fun HT_ HW_ => ?_)
 have ZAa := asd (blk_drew ZA.out)
 have HTa := asd (HT.out.drew)
 have HRa := asd (HR.out.drew)
 clear HT HR
 generalize wa.drew = wb at ZAa HTa HRa hHeld ⊢
 refine pure_ (i := 0) (N := (some 19)) (v := ?_) (a' := ?_) #[true, false, false, false, false, false, false, false, false, false, false, false] rfl rfl (any_of HT_.out (by kernel_rfl)) (fun _ _ _ h => h) (Or.inl ⟨by rfl, ?_⟩) ?_ ?_
 rotate_left
 ·intro w'
  go_simp
  with_reducible rfl
 rotate_left
 ·simp only [Act.put, sB, i64_w, i32_w]
  rfl
 refine pure_ (i := 1) (N := (some 20)) (v := ?_) (a' := ?_) #[true, true, false, false, false, false, false, false, false, false, false, false] rfl rfl (any_of HT_.out (by kernel_rfl)) (fun _ _ _ h => h) (Or.inl ⟨by rfl, ?_⟩) ?_ ?_
 rotate_left
 ·intro w'
  go_simp
  with_reducible rfl
 rotate_left
 ·simp only [Act.put, sB, i64_w, i32_w]
  rfl
 refine take_ (i := 2) (N := (some 21)) (v := ?_) (a' := ?_) #[true, true, true, false, false, false, false, false, false, false, false, false] rfl rfl (take_ofW HT_.out HW_.out (by kernel_rfl)) (fun _ _ _ h => h) (Or.inl ⟨by rfl, ?_⟩) hHeld ?_ ?_
 rotate_left
 ·rintro w' ⟨s0, s1, s2, s3, s4⟩
  go_simp
  with_reducible rfl
 rotate_left
 ·simp only [Act.put, sB, i64_w, i32_w]
  rfl
 refine pure_ (i := 6) (N := (some 25)) (v := ?_) (a' := ?_) #[true, true, true, false, false, false, true, false, false, false, false, false] rfl rfl (any_of HT_.out (by kernel_rfl)) (fun _ _ _ h => h) (Or.inl ⟨by rfl, ?_⟩) ?_ ?_
 rotate_left
 ·intro w'
  go_simp
  with_reducible rfl
 rotate_left
 ·simp only [Act.put, sB, i64_w, i32_w]
  rfl
 refine pure_ (i := 7) (N := (some 26)) (v := ?_) (a' := ?_) #[true, true, true, false, false, false, true, true, false, false, false, false] rfl rfl (any_of HT_.out (by kernel_rfl)) (fun _ _ _ h => h) (Or.inl ⟨by rfl, ?_⟩) ?_ ?_
 rotate_left
 ·intro w'
  go_simp
  with_reducible rfl
 rotate_left
 ·simp only [Act.put, sB, i64_w, i32_w]
  rfl
 refine take_ (i := 8) (N := (some 27)) (v := ?_) (a' := ?_) #[true, true, true, false, false, false, true, true, true, false, false, false] rfl rfl (take_ofW HT_.out HW_.out (by kernel_rfl)) (fun _ _ _ h => h) (Or.inl ⟨by rfl, ?_⟩) hHeld ?_ ?_
 rotate_left
 ·rintro w' ⟨s0, s1, s2, s3, s4⟩
  go_simp
  with_reducible rfl
 rotate_left
 ·simp only [Act.put, sB, i64_w, i32_w]
  rfl
 refine one_ (i := 3) (N := (some 22)) #[true, true, true, true, false, false, true, true, true, false, false, false] rfl rfl (one_of HT_.out (by kernel_rfl)) (by decide) (fun K hK => ?_)
 refine goes_ Try.func39 (by kernel_rfl) rfl #[.agg #[.int .i64 (k : Int), .int .i64 arr, .int .i64 wrk, .int .i64 dn, .slice A xs.length c]] (by rfl) rfl rfl (by simp [Act.eval]) ?_
 refine (job_calls (k : Int) arr wrk dn A c xs wb (Kd.C_below CX.out.1 HRa.out.fr) CX.out.2.1 (by have := CX.out.2.2; omega)).mono ?_
 rintro e wc ⟨v, rfl, hv, hb⟩
 obtain ⟨Av, cv, rfl⟩ := Kd.R_slice hv
 have HV := asd (And.intro (C_ofR hv) (Kd.R_reads' hv).2.1)
 have HTc := asd (HTa.out.below hb)
 have HRc := asd (HRa.out.below hb)
 have ZAc := asd (blk_below ZAa.out hb)
 clear hv hb HTa HRa ZAa
 refine ⟨_, rfl, ?_⟩
 refine hK.out _ _ ⟨(blk_cell ZAc.out 2).trans rfl, (blk_cell ZAc.out 3).trans rfl, (blk_cell ZAc.out 4).trans rfl, (blk_cell ZAc.out 5).trans rfl, (blk_cell ZAc.out 6).trans rfl⟩ (fun hHeld => ?_)
 clear hK K
 refine norm_ (a' := ?_) ?_ ?_
 rotate_left
 ·show Act.put _ (some 22) _ = _
  simp only [Act.put, sB, i64_w, i32_w]
  rfl
 refine one_ (i := 4) (N := (some 23)) #[true, true, true, true, true, false, true, true, true, false, false, false] rfl rfl (one_of HT_.out (by kernel_rfl)) (by decide) (fun K hK => ?_)
 refine goes_ Try.func38 (by kernel_rfl) rfl #[.pointer (some ⟨g, 0, none⟩), .agg #[.int .i64 (k : Int), .int .i64 arr, .int .i64 wrk, .int .i64 dn, .slice Av (xs.map jop).length cv]] (by rfl) rfl rfl (by simp [Act.eval]) ?_
 refine (tput_bad HTc.out k arr wrk dn Av cv (xs.map jop) HK.out HV.out.1 HV.out.2 HJ.out).mono ?_
 rintro e wd ⟨rfl, hb⟩
 have HTd := asd (HTc.out.below hb)
 have HRd := asd (HRc.out.below hb)
 have ZAd := asd (blk_below ZAc.out hb)
 clear hb HTc HRc ZAc
 refine ⟨_, rfl, ?_⟩
 refine hK.out _ _ ⟨(blk_cell ZAd.out 2).trans rfl, (blk_cell ZAd.out 3).trans rfl, (blk_cell ZAd.out 4).trans rfl, (blk_cell ZAd.out 5).trans rfl, (blk_cell ZAd.out 6).trans rfl⟩ (fun hHeld => ?_)
 clear hK K
 refine norm_ (a' := ?_) ?_ ?_
 rotate_left
 ·show Act.put _ (some 23) _ = _
  simp only [Act.put, sB, i64_w, i32_w]
  rfl
 refine one_ (i := 5) (N := (some 24)) #[true, true, true, true, true, true, true, true, true, false, false, false] rfl rfl (one_of HT_.out (by kernel_rfl)) (by decide) (fun K hK => ?_)
 refine goes_ Try.func37 (by kernel_rfl) rfl #[.int .i64 1] (by rfl) rfl rfl (by simp [Act.eval]) ?_
 refine (parcloselaw19_num.calls _ _ _ rfl).mono ?_
 rintro e we ⟨rfl, hd⟩
 have HTe := asd (HTd.out.below hd.below)
 have HRe := asd (HRd.out.below hd.below)
 have ZAe := asd (blk_below ZAd.out hd.below)
 clear hd HTd HRd ZAd
 refine ⟨_, rfl, ?_⟩
 refine hK.out _ _ ⟨(blk_cell ZAe.out 2).trans rfl, (blk_cell ZAe.out 3).trans rfl, (blk_cell ZAe.out 4).trans rfl, (blk_cell ZAe.out 5).trans rfl, (blk_cell ZAe.out 6).trans rfl⟩ (fun hHeld => ?_)
 clear hK K
 refine norm_ (a' := ?_) ?_ ?_
 rotate_left
 ·show Act.put _ (some 24) _ = _
  simp only [Act.put, sB, i64_w, i32_w]
  rfl
 refine last_ (i := 9) (N := (some 28)) #[true, true, true, true, true, true, true, true, true, true, false, false] rfl rfl (one_of HT_.out (by kernel_rfl)) (by decide) (fun K hK => ?_)
 refine goes_ Try.func92 (by kernel_rfl) rfl #[.pointer (some ⟨r, 0, none⟩), .agg #[.int .i64 (k : Int), .int .i64 arr, .int .i64 wrk, .int .i64 dn, .slice A xs.length c]] (by rfl) rfl rfl (by simp [Act.eval]) ?_
 refine (rput_bad HRe.out (k : Int) arr wrk dn A c xs HNB.out).mono ?_
 rintro e wf ⟨rfl, hb⟩
 have HTf := asd (HTe.out.below hb)
 have HRf := asd (HRe.out.below hb)
 clear hb HTe HRe ZAe
 refine ⟨_, rfl, ?_⟩
 refine hK.out _ _ ?_
 clear hK K
 refine norm_ (a' := ?_) ?_ ?_
 rotate_left
 ·show Act.put _ (some 28) _ = _
  simp only [Act.put, sB, i64_w, i32_w]
  rfl
 refine pure_ (i := 10) (N := (some 29)) (v := ?_) (a' := ?_) #[true, true, true, true, true, true, true, true, true, true, true, false] rfl rfl (any_of HT_.out (by kernel_rfl)) (fun _ _ _ h => h) (Or.inl ⟨by rfl, ?_⟩) ?_ ?_
 rotate_left
 ·intro w'
  go_simp
  with_reducible rfl
 rotate_left
 ·simp only [Act.put, sB, i64_w, i32_w]
  rfl
 refine pure_ (i := 11) (N := (some 6)) (v := ?_) (a' := ?_) #[true, true, true, true, true, true, true, true, true, true, true, true] rfl rfl (any_of HT_.out (by kernel_rfl)) (fun _ _ _ h => h) (Or.inl ⟨by rfl, ?_⟩) ?_ ?_
 rotate_left
 ·intro w'
  go_simp
  with_reducible rfl
 rotate_left
 ·simp only [Act.put, sB, i64_w, i32_w]
  rfl
 refine done_ (done_of HT_.out (by kernel_rfl)) ?_
 try go_wp2
 go_ret
 exact ⟨rfl, T, R, HTf.out, HRf.out, HP.out⟩
set_option maxHeartbeats 32000000 in
set_option maxRecDepth 100000 in
theorem do_put0_there (hT : TabOK w base g T) (hR : RTab w w0 r R) (hb0 : w0.heap.size ≤ base) (hP : PI l T R) (kk arr wrk : Int) (A : Option Addr) (c : Nat) (xs : List S134) (hC : Kd.C k134 w0 A xs.length xs) (hc : xs.length ≤ c) (h70 : xs.length ≤ 70) (k b : Nat) (dn : Int) (hk : k < T.sl.length) (hbp : T.pt k = some b) (hj : rjob arr wrk dn (xs.map jop) = true) : Calls Try.prog 48 #[.pointer (some ⟨g, 0, none⟩), .pointer (some ⟨r, 0, none⟩), .agg #[.int .i64 0, .int .i64 kk, .int .i64 (k : Int), .int .i64 arr, .int .i64 wrk, .int .i64 dn, .slice A xs.length c]] w fun e w' => e = .returned (.bool true) ∧ DoPost w0 w' base g r l := by
 have hlen : R.K.length = T.sl.length := by rw [hP.K, hP.len]
 have HK := asd hk
 have HJ := asd hj
 have HBP := asd hbp
 have HIS := asd (hP.is_some hbp).1
 have HKR : Aside0 (k < R.K.length) := ⟨by rw [hlen]; exact hk⟩
 clear hk hj hlen hbp
 have hu65 := Try.underlying65
 have hu63 := Try.underlying63
 have hu76 := Try.underlying76
 have hu134 := Try.underlying134
 have hu90 := Try.underlying90
 have ZA := asd (heap_alloc_new w (.cells #[.int .i64 0, .int .i64 kk, .int .i64 (k : Int), .int .i64 arr, .int .i64 wrk, .int .i64 dn, .slice A xs.length c] 65))
 have HB := below_alloc (Below.refl w.heap.size w) (.cells #[.int .i64 0, .int .i64 kk, .int .i64 (k : Int), .int .i64 arr, .int .i64 wrk, .int .i64 dn, .slice A xs.length c] 65)
 have HT := asd (hT.below HB)
 have HR := asd (hR.below HB)
 have HP := asd hP
 have HB0 := asd hb0
 have SLT : Aside0 (¬ T.S g w.heap.size) := ⟨fun q => Nat.lt_irrefl _ (hT.lt _ q)⟩
 have SNR : Aside0 (w.heap.size ≠ r) := ⟨fun q => by have := blk_lt hR.blk; omega⟩
 have CX := asd (And.intro hC (And.intro hc h70))
 clear hT hR hP hb0 hC hc h70 HB
 have a0 := (blk_cell ZA.out 0).trans rfl
 go_enter Try.func48, Try.ntmps48
 go_wp2
 generalize w.alloc (.cells #[.int .i64 0, .int .i64 kk, .int .i64 (k : Int), .int .i64 arr, .int .i64 wrk, .int .i64 dn, .slice A xs.length c] 65) = wa at ZA HT HR ⊢
 generalize w.heap.size = s at ZA SLT SNR ⊢
 clear a0
 refine start_ (n := 12) (S := fun w' => w'.cell? ⟨s, 2, none⟩ = some (.int .i64 (k : Int)) ∧ w'.cell? ⟨s, 3, none⟩ = some (.int .i64 arr) ∧ w'.cell? ⟨s, 4, none⟩ = some (.int .i64 wrk) ∧ w'.cell? ⟨s, 5, none⟩ = some (.int .i64 dn) ∧ w'.cell? ⟨s, 6, none⟩ = some (.slice A xs.length c)) (ds := [9]) #[false, false, false, false, false, false, false, false, false, false, false, false] (by kernel_rfl) rfl rfl ⟨(blk_cell ZA.out 2).trans rfl, (blk_cell ZA.out 3).trans rfl, (blk_cell ZA.out 4).trans rfl, (blk_cell ZA.out 5).trans rfl, (blk_cell ZA.out 6).trans rfl⟩ (fun hHeld => ?_); refine with_tabW do4_tab do4_bits (fun HT_ HW_ => ?_)
 have ZAa := asd (blk_drew ZA.out)
 have HTa := asd (HT.out.drew)
 have HRa := asd (HR.out.drew)
 clear HT HR
 generalize wa.drew = wb at ZAa HTa HRa hHeld ⊢
 refine pure_ (i := 0) (N := (some 19)) (v := ?_) (a' := ?_) #[true, false, false, false, false, false, false, false, false, false, false, false] rfl rfl (any_of HT_.out (by kernel_rfl)) (fun _ _ _ h => h) (Or.inl ⟨by rfl, ?_⟩) ?_ ?_
 rotate_left
 ·intro w'
  go_simp
  with_reducible rfl
 rotate_left
 ·simp only [Act.put, sB, i64_w, i32_w]
  rfl
 refine pure_ (i := 1) (N := (some 20)) (v := ?_) (a' := ?_) #[true, true, false, false, false, false, false, false, false, false, false, false] rfl rfl (any_of HT_.out (by kernel_rfl)) (fun _ _ _ h => h) (Or.inl ⟨by rfl, ?_⟩) ?_ ?_
 rotate_left
 ·intro w'
  go_simp
  with_reducible rfl
 rotate_left
 ·simp only [Act.put, sB, i64_w, i32_w]
  rfl
 refine take_ (i := 2) (N := (some 21)) (v := ?_) (a' := ?_) #[true, true, true, false, false, false, false, false, false, false, false, false] rfl rfl (take_ofW HT_.out HW_.out (by kernel_rfl)) (fun _ _ _ h => h) (Or.inl ⟨by rfl, ?_⟩) hHeld ?_ ?_
 rotate_left
 ·rintro w' ⟨s0, s1, s2, s3, s4⟩
  go_simp
  with_reducible rfl
 rotate_left
 ·simp only [Act.put, sB, i64_w, i32_w]
  rfl
 refine pure_ (i := 6) (N := (some 25)) (v := ?_) (a' := ?_) #[true, true, true, false, false, false, true, false, false, false, false, false] rfl rfl (any_of HT_.out (by kernel_rfl)) (fun _ _ _ h => h) (Or.inl ⟨by rfl, ?_⟩) ?_ ?_
 rotate_left
 ·intro w'
  go_simp
  with_reducible rfl
 rotate_left
 ·simp only [Act.put, sB, i64_w, i32_w]
  rfl
 refine pure_ (i := 7) (N := (some 26)) (v := ?_) (a' := ?_) #[true, true, true, false, false, false, true, true, false, false, false, false] rfl rfl (any_of HT_.out (by kernel_rfl)) (fun _ _ _ h => h) (Or.inl ⟨by rfl, ?_⟩) ?_ ?_
 rotate_left
 ·intro w'
  go_simp
  with_reducible rfl
 rotate_left
 ·simp only [Act.put, sB, i64_w, i32_w]
  rfl
 refine take_ (i := 8) (N := (some 27)) (v := ?_) (a' := ?_) #[true, true, true, false, false, false, true, true, true, false, false, false] rfl rfl (take_ofW HT_.out HW_.out (by kernel_rfl)) (fun _ _ _ h => h) (Or.inl ⟨by rfl, ?_⟩) hHeld ?_ ?_
 rotate_left
 ·rintro w' ⟨s0, s1, s2, s3, s4⟩
  go_simp
  with_reducible rfl
 rotate_left
 ·simp only [Act.put, sB, i64_w, i32_w]
  rfl
 refine one_ (i := 3) (N := (some 22)) #[true, true, true, true, false, false, true, true, true, false, false, false] rfl rfl (one_of HT_.out (by kernel_rfl)) (by decide) (fun K hK => ?_)
 refine goes_ Try.func39 (by kernel_rfl) rfl #[.agg #[.int .i64 (k : Int), .int .i64 arr, .int .i64 wrk, .int .i64 dn, .slice A xs.length c]] (by rfl) rfl rfl (by simp [Act.eval]) ?_
 refine (job_calls (k : Int) arr wrk dn A c xs wb (Kd.C_below CX.out.1 HRa.out.fr) CX.out.2.1 (by have := CX.out.2.2; omega)).mono ?_
 rintro e wc ⟨v, rfl, hv, hb⟩
 obtain ⟨Av, cv, rfl⟩ := Kd.R_slice hv
 have HV := asd (And.intro (C_ofR hv) (Kd.R_reads' hv).2.1)
 have HTc := asd (HTa.out.below hb)
 have HRc := asd (HRa.out.below hb)
 have ZAc := asd (blk_below ZAa.out hb)
 clear hv hb HTa HRa ZAa
 refine ⟨_, rfl, ?_⟩
 refine hK.out _ _ ⟨(blk_cell ZAc.out 2).trans rfl, (blk_cell ZAc.out 3).trans rfl, (blk_cell ZAc.out 4).trans rfl, (blk_cell ZAc.out 5).trans rfl, (blk_cell ZAc.out 6).trans rfl⟩ (fun hHeld => ?_)
 clear hK K
 refine norm_ (a' := ?_) ?_ ?_
 rotate_left
 ·show Act.put _ (some 22) _ = _
  simp only [Act.put, sB, i64_w, i32_w]
  rfl
 refine one_ (i := 4) (N := (some 23)) #[true, true, true, true, true, false, true, true, true, false, false, false] rfl rfl (one_of HT_.out (by kernel_rfl)) (by decide) (fun K hK => ?_)
 refine goes_ Try.func38 (by kernel_rfl) rfl #[.pointer (some ⟨g, 0, none⟩), .agg #[.int .i64 (k : Int), .int .i64 arr, .int .i64 wrk, .int .i64 dn, .slice Av (xs.map jop).length cv]] (by rfl) rfl rfl (by simp [Act.eval]) ?_
 refine (tput_there HTc.out k b arr wrk dn Av cv (xs.map jop) HK.out HBP.out HV.out.1 HV.out.2 HJ.out).mono ?_
 rintro e wd ⟨rfl, hb⟩
 have HTd := asd (HTc.out.below hb)
 have HRd := asd (HRc.out.below hb)
 have ZAd := asd (blk_below ZAc.out hb)
 clear hb HTc HRc ZAc
 refine ⟨_, rfl, ?_⟩
 refine hK.out _ _ ⟨(blk_cell ZAd.out 2).trans rfl, (blk_cell ZAd.out 3).trans rfl, (blk_cell ZAd.out 4).trans rfl, (blk_cell ZAd.out 5).trans rfl, (blk_cell ZAd.out 6).trans rfl⟩ (fun hHeld => ?_)
 clear hK K
 refine norm_ (a' := ?_) ?_ ?_
 rotate_left
 ·show Act.put _ (some 23) _ = _
  simp only [Act.put, sB, i64_w, i32_w]
  rfl
 refine one_ (i := 5) (N := (some 24)) #[true, true, true, true, true, true, true, true, true, false, false, false] rfl rfl (one_of HT_.out (by kernel_rfl)) (by decide) (fun K hK => ?_)
 refine goes_ Try.func37 (by kernel_rfl) rfl #[.int .i64 4] (by rfl) rfl rfl (by simp [Act.eval]) ?_
 refine (parcloselaw19_num.calls _ _ _ rfl).mono ?_
 rintro e we ⟨rfl, hd⟩
 have HTe := asd (HTd.out.below hd.below)
 have HRe := asd (HRd.out.below hd.below)
 have ZAe := asd (blk_below ZAd.out hd.below)
 clear hd HTd HRd ZAd
 refine ⟨_, rfl, ?_⟩
 refine hK.out _ _ ⟨(blk_cell ZAe.out 2).trans rfl, (blk_cell ZAe.out 3).trans rfl, (blk_cell ZAe.out 4).trans rfl, (blk_cell ZAe.out 5).trans rfl, (blk_cell ZAe.out 6).trans rfl⟩ (fun hHeld => ?_)
 clear hK K
 refine norm_ (a' := ?_) ?_ ?_
 rotate_left
 ·show Act.put _ (some 24) _ = _
  simp only [Act.put, sB, i64_w, i32_w]
  rfl
 refine last_ (i := 9) (N := (some 28)) #[true, true, true, true, true, true, true, true, true, true, false, false] rfl rfl (one_of HT_.out (by kernel_rfl)) (by decide) (fun K hK => ?_)
 refine goes_ Try.func92 (by kernel_rfl) rfl #[.pointer (some ⟨r, 0, none⟩), .agg #[.int .i64 (k : Int), .int .i64 arr, .int .i64 wrk, .int .i64 dn, .slice A xs.length c]] (by rfl) rfl rfl (by simp [Act.eval]) ?_
 refine (rput_there HRe.out k arr wrk dn A c xs HKR.out HIS.out HJ.out).mono ?_
 rintro e wf ⟨rfl, hb⟩
 have HTf := asd (HTe.out.below hb)
 have HRf := asd (HRe.out.below hb)
 clear hb HTe HRe ZAe
 refine ⟨_, rfl, ?_⟩
 refine hK.out _ _ ?_
 clear hK K
 refine norm_ (a' := ?_) ?_ ?_
 rotate_left
 ·show Act.put _ (some 28) _ = _
  simp only [Act.put, sB, i64_w, i32_w]
  rfl
 refine pure_ (i := 10) (N := (some 29)) (v := ?_) (a' := ?_) #[true, true, true, true, true, true, true, true, true, true, true, false] rfl rfl (any_of HT_.out (by kernel_rfl)) (fun _ _ _ h => h) (Or.inl ⟨by rfl, ?_⟩) ?_ ?_
 rotate_left
 ·intro w'
  go_simp
  with_reducible rfl
 rotate_left
 ·simp only [Act.put, sB, i64_w, i32_w]
  rfl
 refine pure_ (i := 11) (N := (some 6)) (v := ?_) (a' := ?_) #[true, true, true, true, true, true, true, true, true, true, true, true] rfl rfl (any_of HT_.out (by kernel_rfl)) (fun _ _ _ h => h) (Or.inl ⟨by rfl, ?_⟩) ?_ ?_
 rotate_left
 ·intro w'
  go_simp
  with_reducible rfl
 rotate_left
 ·simp only [Act.put, sB, i64_w, i32_w]
  rfl
 refine done_ (done_of HT_.out (by kernel_rfl)) ?_
 try go_wp2
 go_ret
 exact ⟨rfl, T, R, HTf.out, HRf.out, HP.out⟩
set_option maxHeartbeats 32000000 in
set_option maxRecDepth 100000 in
theorem do_put0_drop (hT : TabOK w base g T) (hR : RTab w w0 r R) (hb0 : w0.heap.size ≤ base) (hP : PI l T R) (kk arr wrk : Int) (A : Option Addr) (c : Nat) (xs : List S134) (hC : Kd.C k134 w0 A xs.length xs) (hc : xs.length ≤ c) (h70 : xs.length ≤ 70) (k : Nat) (dn : Int) (hk : k < T.sl.length) (hbp : T.pt k = none) (hh : T.hi = true) (hf : (T.tk k).f0 = false) (hj : rjob arr wrk dn (xs.map jop) = true) : Calls Try.prog 48 #[.pointer (some ⟨g, 0, none⟩), .pointer (some ⟨r, 0, none⟩), .agg #[.int .i64 0, .int .i64 kk, .int .i64 (k : Int), .int .i64 arr, .int .i64 wrk, .int .i64 dn, .slice A xs.length c]] w fun e w' => e = .returned (.bool true) ∧ DoPost w0 w' base g r l := by
 have hlen : R.K.length = T.sl.length := by rw [hP.K, hP.len]
 have HK := asd hk
 have HJ := asd hj
 have HBP := asd hbp
 have HIS := asd (hP.is_none hbp)
 have HKR : Aside0 (k < R.K.length) := ⟨by rw [hlen]; exact hk⟩
 have HH := asd hh
 have HHR : Aside0 (R.hi = true) := ⟨by rw [hP.hi]; exact hh⟩
 have HF := asd hf
 have HFR : Aside0 ((R.tk k).f0 = false) := ⟨by rw [hP.rtk (by rw [← hP.len]; exact hk)]; exact hf⟩
 clear hk hj hlen hbp hh hf
 have hu65 := Try.underlying65
 have hu63 := Try.underlying63
 have hu76 := Try.underlying76
 have hu134 := Try.underlying134
 have hu90 := Try.underlying90
 have ZA := asd (heap_alloc_new w (.cells #[.int .i64 0, .int .i64 kk, .int .i64 (k : Int), .int .i64 arr, .int .i64 wrk, .int .i64 dn, .slice A xs.length c] 65))
 have HB := below_alloc (Below.refl w.heap.size w) (.cells #[.int .i64 0, .int .i64 kk, .int .i64 (k : Int), .int .i64 arr, .int .i64 wrk, .int .i64 dn, .slice A xs.length c] 65)
 have HT := asd (hT.below HB)
 have HR := asd (hR.below HB)
 have HP := asd hP
 have HB0 := asd hb0
 have SLT : Aside0 (¬ T.S g w.heap.size) := ⟨fun q => Nat.lt_irrefl _ (hT.lt _ q)⟩
 have SNR : Aside0 (w.heap.size ≠ r) := ⟨fun q => by have := blk_lt hR.blk; omega⟩
 have CX := asd (And.intro hC (And.intro hc h70))
 clear hT hR hP hb0 hC hc h70 HB
 have a0 := (blk_cell ZA.out 0).trans rfl
 go_enter Try.func48, Try.ntmps48
 go_wp2
 generalize w.alloc (.cells #[.int .i64 0, .int .i64 kk, .int .i64 (k : Int), .int .i64 arr, .int .i64 wrk, .int .i64 dn, .slice A xs.length c] 65) = wa at ZA HT HR ⊢
 generalize w.heap.size = s at ZA SLT SNR ⊢
 clear a0
 refine start_ (n := 12) (S := fun w' => w'.cell? ⟨s, 2, none⟩ = some (.int .i64 (k : Int)) ∧ w'.cell? ⟨s, 3, none⟩ = some (.int .i64 arr) ∧ w'.cell? ⟨s, 4, none⟩ = some (.int .i64 wrk) ∧ w'.cell? ⟨s, 5, none⟩ = some (.int .i64 dn) ∧ w'.cell? ⟨s, 6, none⟩ = some (.slice A xs.length c)) (ds := [9]) #[false, false, false, false, false, false, false, false, false, false, false, false] (by kernel_rfl) rfl rfl ⟨(blk_cell ZA.out 2).trans rfl, (blk_cell ZA.out 3).trans rfl, (blk_cell ZA.out 4).trans rfl, (blk_cell ZA.out 5).trans rfl, (blk_cell ZA.out 6).trans rfl⟩ (fun hHeld => ?_); refine with_tabW do4_tab do4_bits (fun HT_ HW_ => ?_)
 have ZAa := asd (blk_drew ZA.out)
 have HTa := asd (HT.out.drew)
 have HRa := asd (HR.out.drew)
 clear HT HR
 generalize wa.drew = wb at ZAa HTa HRa hHeld ⊢
 refine pure_ (i := 0) (N := (some 19)) (v := ?_) (a' := ?_) #[true, false, false, false, false, false, false, false, false, false, false, false] rfl rfl (any_of HT_.out (by kernel_rfl)) (fun _ _ _ h => h) (Or.inl ⟨by rfl, ?_⟩) ?_ ?_
 rotate_left
 ·intro w'
  go_simp
  with_reducible rfl
 rotate_left
 ·simp only [Act.put, sB, i64_w, i32_w]
  rfl
 refine pure_ (i := 1) (N := (some 20)) (v := ?_) (a' := ?_) #[true, true, false, false, false, false, false, false, false, false, false, false] rfl rfl (any_of HT_.out (by kernel_rfl)) (fun _ _ _ h => h) (Or.inl ⟨by rfl, ?_⟩) ?_ ?_
 rotate_left
 ·intro w'
  go_simp
  with_reducible rfl
 rotate_left
 ·simp only [Act.put, sB, i64_w, i32_w]
  rfl
 refine take_ (i := 2) (N := (some 21)) (v := ?_) (a' := ?_) #[true, true, true, false, false, false, false, false, false, false, false, false] rfl rfl (take_ofW HT_.out HW_.out (by kernel_rfl)) (fun _ _ _ h => h) (Or.inl ⟨by rfl, ?_⟩) hHeld ?_ ?_
 rotate_left
 ·rintro w' ⟨s0, s1, s2, s3, s4⟩
  go_simp
  with_reducible rfl
 rotate_left
 ·simp only [Act.put, sB, i64_w, i32_w]
  rfl
 refine pure_ (i := 6) (N := (some 25)) (v := ?_) (a' := ?_) #[true, true, true, false, false, false, true, false, false, false, false, false] rfl rfl (any_of HT_.out (by kernel_rfl)) (fun _ _ _ h => h) (Or.inl ⟨by rfl, ?_⟩) ?_ ?_
 rotate_left
 ·intro w'
  go_simp
  with_reducible rfl
 rotate_left
 ·simp only [Act.put, sB, i64_w, i32_w]
  rfl
 refine pure_ (i := 7) (N := (some 26)) (v := ?_) (a' := ?_) #[true, true, true, false, false, false, true, true, false, false, false, false] rfl rfl (any_of HT_.out (by kernel_rfl)) (fun _ _ _ h => h) (Or.inl ⟨by rfl, ?_⟩) ?_ ?_
 rotate_left
 ·intro w'
  go_simp
  with_reducible rfl
 rotate_left
 ·simp only [Act.put, sB, i64_w, i32_w]
  rfl
 refine take_ (i := 8) (N := (some 27)) (v := ?_) (a' := ?_) #[true, true, true, false, false, false, true, true, true, false, false, false] rfl rfl (take_ofW HT_.out HW_.out (by kernel_rfl)) (fun _ _ _ h => h) (Or.inl ⟨by rfl, ?_⟩) hHeld ?_ ?_
 rotate_left
 ·rintro w' ⟨s0, s1, s2, s3, s4⟩
  go_simp
  with_reducible rfl
 rotate_left
 ·simp only [Act.put, sB, i64_w, i32_w]
  rfl
 refine one_ (i := 3) (N := (some 22)) #[true, true, true, true, false, false, true, true, true, false, false, false] rfl rfl (one_of HT_.out (by kernel_rfl)) (by decide) (fun K hK => ?_)
 refine goes_ Try.func39 (by kernel_rfl) rfl #[.agg #[.int .i64 (k : Int), .int .i64 arr, .int .i64 wrk, .int .i64 dn, .slice A xs.length c]] (by rfl) rfl rfl (by simp [Act.eval]) ?_
 refine (job_calls (k : Int) arr wrk dn A c xs wb (Kd.C_below CX.out.1 HRa.out.fr) CX.out.2.1 (by have := CX.out.2.2; omega)).mono ?_
 rintro e wc ⟨v, rfl, hv, hb⟩
 obtain ⟨Av, cv, rfl⟩ := Kd.R_slice hv
 have HV := asd (And.intro (C_ofR hv) (Kd.R_reads' hv).2.1)
 have HTc := asd (HTa.out.below hb)
 have HRc := asd (HRa.out.below hb)
 have ZAc := asd (blk_below ZAa.out hb)
 clear hv hb HTa HRa ZAa
 refine ⟨_, rfl, ?_⟩
 refine hK.out _ _ ⟨(blk_cell ZAc.out 2).trans rfl, (blk_cell ZAc.out 3).trans rfl, (blk_cell ZAc.out 4).trans rfl, (blk_cell ZAc.out 5).trans rfl, (blk_cell ZAc.out 6).trans rfl⟩ (fun hHeld => ?_)
 clear hK K
 refine norm_ (a' := ?_) ?_ ?_
 rotate_left
 ·show Act.put _ (some 22) _ = _
  simp only [Act.put, sB, i64_w, i32_w]
  rfl
 refine one_ (i := 4) (N := (some 23)) #[true, true, true, true, true, false, true, true, true, false, false, false] rfl rfl (one_of HT_.out (by kernel_rfl)) (by decide) (fun K hK => ?_)
 refine goes_ Try.func38 (by kernel_rfl) rfl #[.pointer (some ⟨g, 0, none⟩), .agg #[.int .i64 (k : Int), .int .i64 arr, .int .i64 wrk, .int .i64 dn, .slice Av (xs.map jop).length cv]] (by rfl) rfl rfl (by simp [Act.eval]) ?_
 refine (tput_drop HTc.out k arr wrk dn Av cv (xs.map jop) HK.out HBP.out HH.out HF.out HV.out.1 HV.out.2 HJ.out).mono ?_
 rintro e wd ⟨rfl, hb⟩
 have HTd := asd (HTc.out.below hb)
 have HRd := asd (HRc.out.below hb)
 have ZAd := asd (blk_below ZAc.out hb)
 clear hb HTc HRc ZAc
 refine ⟨_, rfl, ?_⟩
 refine hK.out _ _ ⟨(blk_cell ZAd.out 2).trans rfl, (blk_cell ZAd.out 3).trans rfl, (blk_cell ZAd.out 4).trans rfl, (blk_cell ZAd.out 5).trans rfl, (blk_cell ZAd.out 6).trans rfl⟩ (fun hHeld => ?_)
 clear hK K
 refine norm_ (a' := ?_) ?_ ?_
 rotate_left
 ·show Act.put _ (some 23) _ = _
  simp only [Act.put, sB, i64_w, i32_w]
  rfl
 refine one_ (i := 5) (N := (some 24)) #[true, true, true, true, true, true, true, true, true, false, false, false] rfl rfl (one_of HT_.out (by kernel_rfl)) (by decide) (fun K hK => ?_)
 refine goes_ Try.func37 (by kernel_rfl) rfl #[.int .i64 42] (by rfl) rfl rfl (by simp [Act.eval]) ?_
 refine (parcloselaw19_num.calls _ _ _ rfl).mono ?_
 rintro e we ⟨rfl, hd⟩
 have HTe := asd (HTd.out.below hd.below)
 have HRe := asd (HRd.out.below hd.below)
 have ZAe := asd (blk_below ZAd.out hd.below)
 clear hd HTd HRd ZAd
 refine ⟨_, rfl, ?_⟩
 refine hK.out _ _ ⟨(blk_cell ZAe.out 2).trans rfl, (blk_cell ZAe.out 3).trans rfl, (blk_cell ZAe.out 4).trans rfl, (blk_cell ZAe.out 5).trans rfl, (blk_cell ZAe.out 6).trans rfl⟩ (fun hHeld => ?_)
 clear hK K
 refine norm_ (a' := ?_) ?_ ?_
 rotate_left
 ·show Act.put _ (some 24) _ = _
  simp only [Act.put, sB, i64_w, i32_w]
  rfl
 refine last_ (i := 9) (N := (some 28)) #[true, true, true, true, true, true, true, true, true, true, false, false] rfl rfl (one_of HT_.out (by kernel_rfl)) (by decide) (fun K hK => ?_)
 refine goes_ Try.func92 (by kernel_rfl) rfl #[.pointer (some ⟨r, 0, none⟩), .agg #[.int .i64 (k : Int), .int .i64 arr, .int .i64 wrk, .int .i64 dn, .slice A xs.length c]] (by rfl) rfl rfl (by simp [Act.eval]) ?_
 refine (rput_drop HRe.out k arr wrk dn A c xs HKR.out HIS.out HHR.out HFR.out HJ.out).mono ?_
 rintro e wf ⟨rfl, hb⟩
 have HTf := asd (HTe.out.below hb)
 have HRf := asd (HRe.out.below hb)
 clear hb HTe HRe ZAe
 refine ⟨_, rfl, ?_⟩
 refine hK.out _ _ ?_
 clear hK K
 refine norm_ (a' := ?_) ?_ ?_
 rotate_left
 ·show Act.put _ (some 28) _ = _
  simp only [Act.put, sB, i64_w, i32_w]
  rfl
 refine pure_ (i := 10) (N := (some 29)) (v := ?_) (a' := ?_) #[true, true, true, true, true, true, true, true, true, true, true, false] rfl rfl (any_of HT_.out (by kernel_rfl)) (fun _ _ _ h => h) (Or.inl ⟨by rfl, ?_⟩) ?_ ?_
 rotate_left
 ·intro w'
  go_simp
  with_reducible rfl
 rotate_left
 ·simp only [Act.put, sB, i64_w, i32_w]
  rfl
 refine pure_ (i := 11) (N := (some 6)) (v := ?_) (a' := ?_) #[true, true, true, true, true, true, true, true, true, true, true, true] rfl rfl (any_of HT_.out (by kernel_rfl)) (fun _ _ _ h => h) (Or.inl ⟨by rfl, ?_⟩) ?_ ?_
 rotate_left
 ·intro w'
  go_simp
  with_reducible rfl
 rotate_left
 ·simp only [Act.put, sB, i64_w, i32_w]
  rfl
 refine done_ (done_of HT_.out (by kernel_rfl)) ?_
 try go_wp2
 go_ret
 exact ⟨rfl, T, R, HTf.out, HRf.out, HP.out⟩
set_option maxHeartbeats 32000000 in
set_option maxRecDepth 100000 in
theorem do_put0_ok (hT : TabOK w base g T) (hR : RTab w w0 r R) (hb0 : w0.heap.size ≤ base) (hP : PI l T R) (kk arr wrk : Int) (A : Option Addr) (c : Nat) (xs : List S134) (hC : Kd.C k134 w0 A xs.length xs) (hc : xs.length ≤ c) (h70 : xs.length ≤ 70) (k : Nat) (hk : k < T.sl.length) (hbp : T.pt k = none) (hh : T.hi = false ∨ (T.tk k).f0 = true) (hj : rjob arr wrk 0 (xs.map jop) = true) : Calls Try.prog 48 #[.pointer (some ⟨g, 0, none⟩), .pointer (some ⟨r, 0, none⟩), .agg #[.int .i64 0, .int .i64 kk, .int .i64 (k : Int), .int .i64 arr, .int .i64 wrk, .int .i64 0, .slice A xs.length c]] w fun e w' => e = .returned (.bool true) ∧ DoPost w0 w' base g r l := by
 have hlen : R.K.length = T.sl.length := by rw [hP.K, hP.len]
 have HK := asd hk
 have HJ := asd hj
 have HBP := asd hbp
 have HIS := asd (hP.is_none hbp)
 have HKR : Aside0 (k < R.K.length) := ⟨by rw [hlen]; exact hk⟩
 have HH := asd hh
 have HHR : Aside0 (R.hi = false ∨ (R.tk k).f0 = true) := ⟨by rw [hP.hi, hP.rtk (by rw [← hP.len]; exact hk)]; exact hh⟩
 clear hk hj hlen hbp hh
 have hu65 := Try.underlying65
 have hu63 := Try.underlying63
 have hu76 := Try.underlying76
 have hu134 := Try.underlying134
 have hu90 := Try.underlying90
 have ZA := asd (heap_alloc_new w (.cells #[.int .i64 0, .int .i64 kk, .int .i64 (k : Int), .int .i64 arr, .int .i64 wrk, .int .i64 0, .slice A xs.length c] 65))
 have HB := below_alloc (Below.refl w.heap.size w) (.cells #[.int .i64 0, .int .i64 kk, .int .i64 (k : Int), .int .i64 arr, .int .i64 wrk, .int .i64 0, .slice A xs.length c] 65)
 have HT := asd (hT.below HB)
 have HR := asd (hR.below HB)
 have HP := asd hP
 have HB0 := asd hb0
 have SLT : Aside0 (¬ T.S g w.heap.size) := ⟨fun q => Nat.lt_irrefl _ (hT.lt _ q)⟩
 have SNR : Aside0 (w.heap.size ≠ r) := ⟨fun q => by have := blk_lt hR.blk; omega⟩
 have CX := asd (And.intro hC (And.intro hc h70))
 clear hT hR hP hb0 hC hc h70 HB
 have a0 := (blk_cell ZA.out 0).trans rfl
 go_enter Try.func48, Try.ntmps48
 go_wp2
 generalize w.alloc (.cells #[.int .i64 0, .int .i64 kk, .int .i64 (k : Int), .int .i64 arr, .int .i64 wrk, .int .i64 0, .slice A xs.length c] 65) = wa at ZA HT HR ⊢
 generalize w.heap.size = s at ZA SLT SNR ⊢
 clear a0
 refine start_ (n := 12) (S := fun w' => w'.cell? ⟨s, 2, none⟩ = some (.int .i64 (k : Int)) ∧ w'.cell? ⟨s, 3, none⟩ = some (.int .i64 arr) ∧ w'.cell? ⟨s, 4, none⟩ = some (.int .i64 wrk) ∧ w'.cell? ⟨s, 5, none⟩ = some (.int .i64 0) ∧ w'.cell? ⟨s, 6, none⟩ = some (.slice A xs.length c)) (ds := [9]) #[false, false, false, false, false, false, false, false, false, false, false, false] (by kernel_rfl) rfl rfl ⟨(blk_cell ZA.out 2).trans rfl, (blk_cell ZA.out 3).trans rfl, (blk_cell ZA.out 4).trans rfl, (blk_cell ZA.out 5).trans rfl, (blk_cell ZA.out 6).trans rfl⟩ (fun hHeld => ?_); refine with_tabW do4_tab do4_bits (fun HT_ HW_ => ?_)
 have ZAa := asd (blk_drew ZA.out)
 have HTa := asd (HT.out.drew)
 have HRa := asd (HR.out.drew)
 clear HT HR
 generalize wa.drew = wb at ZAa HTa HRa hHeld ⊢
 refine pure_ (i := 0) (N := (some 19)) (v := ?_) (a' := ?_) #[true, false, false, false, false, false, false, false, false, false, false, false] rfl rfl (any_of HT_.out (by kernel_rfl)) (fun _ _ _ h => h) (Or.inl ⟨by rfl, ?_⟩) ?_ ?_
 rotate_left
 ·intro w'
  go_simp
  with_reducible rfl
 rotate_left
 ·simp only [Act.put, sB, i64_w, i32_w]
  rfl
 refine pure_ (i := 1) (N := (some 20)) (v := ?_) (a' := ?_) #[true, true, false, false, false, false, false, false, false, false, false, false] rfl rfl (any_of HT_.out (by kernel_rfl)) (fun _ _ _ h => h) (Or.inl ⟨by rfl, ?_⟩) ?_ ?_
 rotate_left
 ·intro w'
  go_simp
  with_reducible rfl
 rotate_left
 ·simp only [Act.put, sB, i64_w, i32_w]
  rfl
 refine take_ (i := 2) (N := (some 21)) (v := ?_) (a' := ?_) #[true, true, true, false, false, false, false, false, false, false, false, false] rfl rfl (take_ofW HT_.out HW_.out (by kernel_rfl)) (fun _ _ _ h => h) (Or.inl ⟨by rfl, ?_⟩) hHeld ?_ ?_
 rotate_left
 ·rintro w' ⟨s0, s1, s2, s3, s4⟩
  go_simp
  with_reducible rfl
 rotate_left
 ·simp only [Act.put, sB, i64_w, i32_w]
  rfl
 refine pure_ (i := 6) (N := (some 25)) (v := ?_) (a' := ?_) #[true, true, true, false, false, false, true, false, false, false, false, false] rfl rfl (any_of HT_.out (by kernel_rfl)) (fun _ _ _ h => h) (Or.inl ⟨by rfl, ?_⟩) ?_ ?_
 rotate_left
 ·intro w'
  go_simp
  with_reducible rfl
 rotate_left
 ·simp only [Act.put, sB, i64_w, i32_w]
  rfl
 refine pure_ (i := 7) (N := (some 26)) (v := ?_) (a' := ?_) #[true, true, true, false, false, false, true, true, false, false, false, false] rfl rfl (any_of HT_.out (by kernel_rfl)) (fun _ _ _ h => h) (Or.inl ⟨by rfl, ?_⟩) ?_ ?_
 rotate_left
 ·intro w'
  go_simp
  with_reducible rfl
 rotate_left
 ·simp only [Act.put, sB, i64_w, i32_w]
  rfl
 refine take_ (i := 8) (N := (some 27)) (v := ?_) (a' := ?_) #[true, true, true, false, false, false, true, true, true, false, false, false] rfl rfl (take_ofW HT_.out HW_.out (by kernel_rfl)) (fun _ _ _ h => h) (Or.inl ⟨by rfl, ?_⟩) hHeld ?_ ?_
 rotate_left
 ·rintro w' ⟨s0, s1, s2, s3, s4⟩
  go_simp
  with_reducible rfl
 rotate_left
 ·simp only [Act.put, sB, i64_w, i32_w]
  rfl
 refine one_ (i := 3) (N := (some 22)) #[true, true, true, true, false, false, true, true, true, false, false, false] rfl rfl (one_of HT_.out (by kernel_rfl)) (by decide) (fun K hK => ?_)
 refine goes_ Try.func39 (by kernel_rfl) rfl #[.agg #[.int .i64 (k : Int), .int .i64 arr, .int .i64 wrk, .int .i64 0, .slice A xs.length c]] (by rfl) rfl rfl (by simp [Act.eval]) ?_
 refine (job_calls (k : Int) arr wrk 0 A c xs wb (Kd.C_below CX.out.1 HRa.out.fr) CX.out.2.1 (by have := CX.out.2.2; omega)).mono ?_
 rintro e wc ⟨v, rfl, hv, hb⟩
 obtain ⟨Av, cv, rfl⟩ := Kd.R_slice hv
 have HV := asd (And.intro (C_ofR hv) (Kd.R_reads' hv).2.1)
 have HTc := asd (HTa.out.below hb)
 have HRc := asd (HRa.out.below hb)
 have ZAc := asd (blk_below ZAa.out hb)
 clear hv hb HTa HRa ZAa
 refine ⟨_, rfl, ?_⟩
 refine hK.out _ _ ⟨(blk_cell ZAc.out 2).trans rfl, (blk_cell ZAc.out 3).trans rfl, (blk_cell ZAc.out 4).trans rfl, (blk_cell ZAc.out 5).trans rfl, (blk_cell ZAc.out 6).trans rfl⟩ (fun hHeld => ?_)
 clear hK K
 refine norm_ (a' := ?_) ?_ ?_
 rotate_left
 ·show Act.put _ (some 22) _ = _
  simp only [Act.put, sB, i64_w, i32_w]
  rfl
 refine one_ (i := 4) (N := (some 23)) #[true, true, true, true, true, false, true, true, true, false, false, false] rfl rfl (one_of HT_.out (by kernel_rfl)) (by decide) (fun K hK => ?_)
 refine goes_ Try.func38 (by kernel_rfl) rfl #[.pointer (some ⟨g, 0, none⟩), .agg #[.int .i64 (k : Int), .int .i64 arr, .int .i64 wrk, .int .i64 0, .slice Av (xs.map jop).length cv]] (by rfl) rfl rfl (by simp [Act.eval]) ?_
 refine (tput_ok HTc.out k arr wrk Av cv (xs.map jop) HK.out HBP.out HH.out HV.out.1 HV.out.2 HJ.out).mono ?_
 rintro e wd ⟨rfl, T2, h2, r2, c2, s2⟩
 have HTd := asd h2
 have RL := asd r2
 have HRd := asd (HRc.out.other (wt := wc) HTc.out HB0.out c2)
 have ZAd := asd (blk_chg ZAc.out c2 SLT.out)
 clear h2 r2 c2 s2 HTc HRc ZAc
 refine ⟨_, rfl, ?_⟩
 refine hK.out _ _ ⟨(blk_cell ZAd.out 2).trans rfl, (blk_cell ZAd.out 3).trans rfl, (blk_cell ZAd.out 4).trans rfl, (blk_cell ZAd.out 5).trans rfl, (blk_cell ZAd.out 6).trans rfl⟩ (fun hHeld => ?_)
 clear hK K
 refine norm_ (a' := ?_) ?_ ?_
 rotate_left
 ·show Act.put _ (some 23) _ = _
  simp only [Act.put, sB, i64_w, i32_w]
  rfl
 refine one_ (i := 5) (N := (some 24)) #[true, true, true, true, true, true, true, true, true, false, false, false] rfl rfl (one_of HT_.out (by kernel_rfl)) (by decide) (fun K hK => ?_)
 refine goes_ Try.func37 (by kernel_rfl) rfl #[.int .i64 0] (by rfl) rfl rfl (by simp [Act.eval]) ?_
 refine (parcloselaw19_num.calls _ _ _ rfl).mono ?_
 rintro e we ⟨rfl, hd⟩
 have HTe := asd (HTd.out.below hd.below)
 have HRe := asd (HRd.out.below hd.below)
 have ZAe := asd (blk_below ZAd.out hd.below)
 clear hd HTd HRd ZAd
 refine ⟨_, rfl, ?_⟩
 refine hK.out _ _ ⟨(blk_cell ZAe.out 2).trans rfl, (blk_cell ZAe.out 3).trans rfl, (blk_cell ZAe.out 4).trans rfl, (blk_cell ZAe.out 5).trans rfl, (blk_cell ZAe.out 6).trans rfl⟩ (fun hHeld => ?_)
 clear hK K
 refine norm_ (a' := ?_) ?_ ?_
 rotate_left
 ·show Act.put _ (some 24) _ = _
  simp only [Act.put, sB, i64_w, i32_w]
  rfl
 refine last_ (i := 9) (N := (some 28)) #[true, true, true, true, true, true, true, true, true, true, false, false] rfl rfl (one_of HT_.out (by kernel_rfl)) (by decide) (fun K hK => ?_)
 refine goes_ Try.func92 (by kernel_rfl) rfl #[.pointer (some ⟨r, 0, none⟩), .agg #[.int .i64 (k : Int), .int .i64 arr, .int .i64 wrk, .int .i64 0, .slice A xs.length c]] (by rfl) rfl rfl (by simp [Act.eval]) ?_
 refine (rput_ok HRe.out k arr wrk A c xs HKR.out HIS.out HHR.out CX.out.1 CX.out.2.1 HJ.out).mono ?_
 rintro e wf ⟨rfl, R3, h3, k3, i3, j3, c3⟩
 have HRf := asd h3
 have HTf := asd (HTe.out.doc HRe.out c3)
 have RR := asd (And.intro k3 (And.intro i3 j3))
 clear h3 k3 i3 j3 c3 HTe HRe ZAe
 refine ⟨_, rfl, ?_⟩
 refine hK.out _ _ ?_
 clear hK K
 refine norm_ (a' := ?_) ?_ ?_
 rotate_left
 ·show Act.put _ (some 28) _ = _
  simp only [Act.put, sB, i64_w, i32_w]
  rfl
 refine pure_ (i := 10) (N := (some 29)) (v := ?_) (a' := ?_) #[true, true, true, true, true, true, true, true, true, true, true, false] rfl rfl (any_of HT_.out (by kernel_rfl)) (fun _ _ _ h => h) (Or.inl ⟨by rfl, ?_⟩) ?_ ?_
 rotate_left
 ·intro w'
  go_simp
  with_reducible rfl
 rotate_left
 ·simp only [Act.put, sB, i64_w, i32_w]
  rfl
 refine pure_ (i := 11) (N := (some 6)) (v := ?_) (a' := ?_) #[true, true, true, true, true, true, true, true, true, true, true, true] rfl rfl (any_of HT_.out (by kernel_rfl)) (fun _ _ _ h => h) (Or.inl ⟨by rfl, ?_⟩) ?_ ?_
 rotate_left
 ·intro w'
  go_simp
  with_reducible rfl
 rotate_left
 ·simp only [Act.put, sB, i64_w, i32_w]
  rfl
 refine done_ (done_of HT_.out (by kernel_rfl)) ?_
 try go_wp2
 go_ret
 have hw : 1 ≤ wrk := (of_decide_eq_true HJ.out).2.1.1
 refine ⟨rfl, T2, R3, HTf.out, HRf.out, HP.out.step RL.out RR.out.1 (RR.out.2.1.trans HP.out.hi) RR.out.2.2 (fun i => ?_) (HP.out.dm RL.out) (fun i j hj hil => ?_)⟩
 ·unfold putJ
  rw [HP.out.js]
 ·unfold putJ at hj
  by_cases e : i = k
  ·rw [if_pos e] at hj
   obtain rfl := Option.some.inj hj
   exact ⟨by show (0 : Int) < wrk; omega, fun q => by rw [e]; exact HH.out.elim (fun q2 => by rw [q2] at q; cases q) (fun q2 => q2)⟩
  ·rw [if_neg e] at hj
   exact HP.out.job i j hj
set_option maxHeartbeats 32000000 in
set_option maxRecDepth 100000 in
theorem do_put1_out (hT : TabOK w base g T) (hR : RTab w w0 r R) (hb0 : w0.heap.size ≤ base) (hP : PI l T R) (kk arr wrk : Int) (A : Option Addr) (c : Nat) (xs : List S134) (hC : Kd.C k134 w0 A xs.length xs) (hc : xs.length ≤ c) (h70 : xs.length ≤ 70) (tsk dn : Int) (hk : ¬ (0 ≤ tsk ∧ tsk < T.sl.length)) : Calls Try.prog 48 #[.pointer (some ⟨g, 0, none⟩), .pointer (some ⟨r, 0, none⟩), .agg #[.int .i64 1, .int .i64 kk, .int .i64 tsk, .int .i64 arr, .int .i64 wrk, .int .i64 dn, .slice A xs.length c]] w fun e w' => e = .returned (.bool true) ∧ DoPost w0 w' base g r l := by
 have hlen : R.K.length = T.sl.length := by rw [hP.K, hP.len]
 have HK := asd hk
 have HNB : Aside0 (¬ (0 ≤ tsk ∧ tsk < R.K.length ∧ rjob arr wrk dn (xs.map jop) = true)) := ⟨fun q => hk ⟨q.1, by rw [← hlen]; exact q.2.1⟩⟩
 clear hk hlen
 have hu65 := Try.underlying65
 have hu63 := Try.underlying63
 have hu76 := Try.underlying76
 have hu134 := Try.underlying134
 have hu90 := Try.underlying90
 have ZA := asd (heap_alloc_new w (.cells #[.int .i64 1, .int .i64 kk, .int .i64 tsk, .int .i64 arr, .int .i64 wrk, .int .i64 dn, .slice A xs.length c] 65))
 have HB := below_alloc (Below.refl w.heap.size w) (.cells #[.int .i64 1, .int .i64 kk, .int .i64 tsk, .int .i64 arr, .int .i64 wrk, .int .i64 dn, .slice A xs.length c] 65)
 have HT := asd (hT.below HB)
 have HR := asd (hR.below HB)
 have HP := asd hP
 have HB0 := asd hb0
 have SLT : Aside0 (¬ T.S g w.heap.size) := ⟨fun q => Nat.lt_irrefl _ (hT.lt _ q)⟩
 have SNR : Aside0 (w.heap.size ≠ r) := ⟨fun q => by have := blk_lt hR.blk; omega⟩
 have CX := asd (And.intro hC (And.intro hc h70))
 clear hT hR hP hb0 hC hc h70 HB
 have a0 := (blk_cell ZA.out 0).trans rfl
 go_enter Try.func48, Try.ntmps48
 go_wp2
 generalize w.alloc (.cells #[.int .i64 1, .int .i64 kk, .int .i64 tsk, .int .i64 arr, .int .i64 wrk, .int .i64 dn, .slice A xs.length c] 65) = wa at ZA HT HR ⊢
 generalize w.heap.size = s at ZA SLT SNR ⊢
 clear a0
 refine start_ (n := 12) (S := fun w' => w'.cell? ⟨s, 2, none⟩ = some (.int .i64 tsk) ∧ w'.cell? ⟨s, 3, none⟩ = some (.int .i64 arr) ∧ w'.cell? ⟨s, 4, none⟩ = some (.int .i64 wrk) ∧ w'.cell? ⟨s, 5, none⟩ = some (.int .i64 dn) ∧ w'.cell? ⟨s, 6, none⟩ = some (.slice A xs.length c)) (ds := [9]) #[false, false, false, false, false, false, false, false, false, false, false, false] (by kernel_rfl) rfl rfl ⟨(blk_cell ZA.out 2).trans rfl, (blk_cell ZA.out 3).trans rfl, (blk_cell ZA.out 4).trans rfl, (blk_cell ZA.out 5).trans rfl, (blk_cell ZA.out 6).trans rfl⟩ (fun hHeld => ?_); refine with_tabW do4_tab do4_bits (fun HT_ HW_ => ?_)
 have ZAa := asd (blk_drew ZA.out)
 have HTa := asd (HT.out.drew)
 have HRa := asd (HR.out.drew)
 clear HT HR
 generalize wa.drew = wb at ZAa HTa HRa hHeld ⊢
 refine pure_ (i := 0) (N := (some 19)) (v := ?_) (a' := ?_) #[true, false, false, false, false, false, false, false, false, false, false, false] rfl rfl (any_of HT_.out (by kernel_rfl)) (fun _ _ _ h => h) (Or.inl ⟨by rfl, ?_⟩) ?_ ?_
 rotate_left
 ·intro w'
  go_simp
  with_reducible rfl
 rotate_left
 ·simp only [Act.put, sB, i64_w, i32_w]
  rfl
 refine pure_ (i := 1) (N := (some 20)) (v := ?_) (a' := ?_) #[true, true, false, false, false, false, false, false, false, false, false, false] rfl rfl (any_of HT_.out (by kernel_rfl)) (fun _ _ _ h => h) (Or.inl ⟨by rfl, ?_⟩) ?_ ?_
 rotate_left
 ·intro w'
  go_simp
  with_reducible rfl
 rotate_left
 ·simp only [Act.put, sB, i64_w, i32_w]
  rfl
 refine take_ (i := 2) (N := (some 21)) (v := ?_) (a' := ?_) #[true, true, true, false, false, false, false, false, false, false, false, false] rfl rfl (take_ofW HT_.out HW_.out (by kernel_rfl)) (fun _ _ _ h => h) (Or.inl ⟨by rfl, ?_⟩) hHeld ?_ ?_
 rotate_left
 ·rintro w' ⟨s0, s1, s2, s3, s4⟩
  go_simp
  with_reducible rfl
 rotate_left
 ·simp only [Act.put, sB, i64_w, i32_w]
  rfl
 refine pure_ (i := 6) (N := (some 25)) (v := ?_) (a' := ?_) #[true, true, true, false, false, false, true, false, false, false, false, false] rfl rfl (any_of HT_.out (by kernel_rfl)) (fun _ _ _ h => h) (Or.inl ⟨by rfl, ?_⟩) ?_ ?_
 rotate_left
 ·intro w'
  go_simp
  with_reducible rfl
 rotate_left
 ·simp only [Act.put, sB, i64_w, i32_w]
  rfl
 refine pure_ (i := 7) (N := (some 26)) (v := ?_) (a' := ?_) #[true, true, true, false, false, false, true, true, false, false, false, false] rfl rfl (any_of HT_.out (by kernel_rfl)) (fun _ _ _ h => h) (Or.inl ⟨by rfl, ?_⟩) ?_ ?_
 rotate_left
 ·intro w'
  go_simp
  with_reducible rfl
 rotate_left
 ·simp only [Act.put, sB, i64_w, i32_w]
  rfl
 refine take_ (i := 8) (N := (some 27)) (v := ?_) (a' := ?_) #[true, true, true, false, false, false, true, true, true, false, false, false] rfl rfl (take_ofW HT_.out HW_.out (by kernel_rfl)) (fun _ _ _ h => h) (Or.inl ⟨by rfl, ?_⟩) hHeld ?_ ?_
 rotate_left
 ·rintro w' ⟨s0, s1, s2, s3, s4⟩
  go_simp
  with_reducible rfl
 rotate_left
 ·simp only [Act.put, sB, i64_w, i32_w]
  rfl
 refine one_ (i := 3) (N := (some 22)) #[true, true, true, true, false, false, true, true, true, false, false, false] rfl rfl (one_of HT_.out (by kernel_rfl)) (by decide) (fun K hK => ?_)
 refine goes_ Try.func39 (by kernel_rfl) rfl #[.agg #[.int .i64 tsk, .int .i64 arr, .int .i64 wrk, .int .i64 dn, .slice A xs.length c]] (by rfl) rfl rfl (by simp [Act.eval]) ?_
 refine (job_calls tsk arr wrk dn A c xs wb (Kd.C_below CX.out.1 HRa.out.fr) CX.out.2.1 (by have := CX.out.2.2; omega)).mono ?_
 rintro e wc ⟨v, rfl, hv, hb⟩
 obtain ⟨Av, cv, rfl⟩ := Kd.R_slice hv
 have HV := asd (And.intro (C_ofR hv) (Kd.R_reads' hv).2.1)
 have HTc := asd (HTa.out.below hb)
 have HRc := asd (HRa.out.below hb)
 have ZAc := asd (blk_below ZAa.out hb)
 clear hv hb HTa HRa ZAa
 refine ⟨_, rfl, ?_⟩
 refine hK.out _ _ ⟨(blk_cell ZAc.out 2).trans rfl, (blk_cell ZAc.out 3).trans rfl, (blk_cell ZAc.out 4).trans rfl, (blk_cell ZAc.out 5).trans rfl, (blk_cell ZAc.out 6).trans rfl⟩ (fun hHeld => ?_)
 clear hK K
 refine norm_ (a' := ?_) ?_ ?_
 rotate_left
 ·show Act.put _ (some 22) _ = _
  simp only [Act.put, sB, i64_w, i32_w]
  rfl
 refine one_ (i := 4) (N := (some 23)) #[true, true, true, true, true, false, true, true, true, false, false, false] rfl rfl (one_of HT_.out (by kernel_rfl)) (by decide) (fun K hK => ?_)
 refine goes_ Try.func38 (by kernel_rfl) rfl #[.pointer (some ⟨g, 0, none⟩), .agg #[.int .i64 tsk, .int .i64 arr, .int .i64 wrk, .int .i64 dn, .slice Av (xs.map jop).length cv]] (by rfl) rfl rfl (by simp [Act.eval]) ?_
 refine (tput_out HTc.out tsk arr wrk dn Av cv (xs.map jop) HK.out).mono ?_
 rintro e wd ⟨rfl, hb⟩
 have HTd := asd (HTc.out.below hb)
 have HRd := asd (HRc.out.below hb)
 have ZAd := asd (blk_below ZAc.out hb)
 clear hb HTc HRc ZAc
 refine ⟨_, rfl, ?_⟩
 refine hK.out _ _ ⟨(blk_cell ZAd.out 2).trans rfl, (blk_cell ZAd.out 3).trans rfl, (blk_cell ZAd.out 4).trans rfl, (blk_cell ZAd.out 5).trans rfl, (blk_cell ZAd.out 6).trans rfl⟩ (fun hHeld => ?_)
 clear hK K
 refine norm_ (a' := ?_) ?_ ?_
 rotate_left
 ·show Act.put _ (some 23) _ = _
  simp only [Act.put, sB, i64_w, i32_w]
  rfl
 refine one_ (i := 5) (N := (some 24)) #[true, true, true, true, true, true, true, true, true, false, false, false] rfl rfl (one_of HT_.out (by kernel_rfl)) (by decide) (fun K hK => ?_)
 refine goes_ Try.func37 (by kernel_rfl) rfl #[.int .i64 1] (by rfl) rfl rfl (by simp [Act.eval]) ?_
 refine (parcloselaw19_num.calls _ _ _ rfl).mono ?_
 rintro e we ⟨rfl, hd⟩
 have HTe := asd (HTd.out.below hd.below)
 have HRe := asd (HRd.out.below hd.below)
 have ZAe := asd (blk_below ZAd.out hd.below)
 clear hd HTd HRd ZAd
 refine ⟨_, rfl, ?_⟩
 refine hK.out _ _ ⟨(blk_cell ZAe.out 2).trans rfl, (blk_cell ZAe.out 3).trans rfl, (blk_cell ZAe.out 4).trans rfl, (blk_cell ZAe.out 5).trans rfl, (blk_cell ZAe.out 6).trans rfl⟩ (fun hHeld => ?_)
 clear hK K
 refine norm_ (a' := ?_) ?_ ?_
 rotate_left
 ·show Act.put _ (some 24) _ = _
  simp only [Act.put, sB, i64_w, i32_w]
  rfl
 refine last_ (i := 9) (N := (some 28)) #[true, true, true, true, true, true, true, true, true, true, false, false] rfl rfl (one_of HT_.out (by kernel_rfl)) (by decide) (fun K hK => ?_)
 refine goes_ Try.func92 (by kernel_rfl) rfl #[.pointer (some ⟨r, 0, none⟩), .agg #[.int .i64 tsk, .int .i64 arr, .int .i64 wrk, .int .i64 dn, .slice A xs.length c]] (by rfl) rfl rfl (by simp [Act.eval]) ?_
 refine (rput_bad HRe.out tsk arr wrk dn A c xs HNB.out).mono ?_
 rintro e wf ⟨rfl, hb⟩
 have HTf := asd (HTe.out.below hb)
 have HRf := asd (HRe.out.below hb)
 clear hb HTe HRe ZAe
 refine ⟨_, rfl, ?_⟩
 refine hK.out _ _ ?_
 clear hK K
 refine norm_ (a' := ?_) ?_ ?_
 rotate_left
 ·show Act.put _ (some 28) _ = _
  simp only [Act.put, sB, i64_w, i32_w]
  rfl
 refine pure_ (i := 10) (N := (some 29)) (v := ?_) (a' := ?_) #[true, true, true, true, true, true, true, true, true, true, true, false] rfl rfl (any_of HT_.out (by kernel_rfl)) (fun _ _ _ h => h) (Or.inl ⟨by rfl, ?_⟩) ?_ ?_
 rotate_left
 ·intro w'
  go_simp
  with_reducible rfl
 rotate_left
 ·simp only [Act.put, sB, i64_w, i32_w]
  rfl
 refine pure_ (i := 11) (N := (some 6)) (v := ?_) (a' := ?_) #[true, true, true, true, true, true, true, true, true, true, true, true] rfl rfl (any_of HT_.out (by kernel_rfl)) (fun _ _ _ h => h) (Or.inl ⟨by rfl, ?_⟩) ?_ ?_
 rotate_left
 ·intro w'
  go_simp
  with_reducible rfl
 rotate_left
 ·simp only [Act.put, sB, i64_w, i32_w]
  rfl
 refine done_ (done_of HT_.out (by kernel_rfl)) ?_
 try go_wp2
 go_ret
 exact ⟨rfl, T, R, HTf.out, HRf.out, HP.out⟩
set_option maxHeartbeats 32000000 in
set_option maxRecDepth 100000 in
theorem do_put1_bad (hT : TabOK w base g T) (hR : RTab w w0 r R) (hb0 : w0.heap.size ≤ base) (hP : PI l T R) (kk arr wrk : Int) (A : Option Addr) (c : Nat) (xs : List S134) (hC : Kd.C k134 w0 A xs.length xs) (hc : xs.length ≤ c) (h70 : xs.length ≤ 70) (k : Nat) (dn : Int) (hk : k < T.sl.length) (hj : rjob arr wrk dn (xs.map jop) = false) : Calls Try.prog 48 #[.pointer (some ⟨g, 0, none⟩), .pointer (some ⟨r, 0, none⟩), .agg #[.int .i64 1, .int .i64 kk, .int .i64 (k : Int), .int .i64 arr, .int .i64 wrk, .int .i64 dn, .slice A xs.length c]] w fun e w' => e = .returned (.bool true) ∧ DoPost w0 w' base g r l := by
 have hlen : R.K.length = T.sl.length := by rw [hP.K, hP.len]
 have HK := asd hk
 have HJ := asd hj
 have HNB : Aside0 (¬ (0 ≤ (k : Int) ∧ (k : Int) < R.K.length ∧ rjob arr wrk dn (xs.map jop) = true)) := ⟨fun q => by rw [hj] at q; exact absurd q.2.2 (by simp)⟩
 clear hk hj hlen
 have hu65 := Try.underlying65
 have hu63 := Try.underlying63
 have hu76 := Try.underlying76
 have hu134 := Try.underlying134
 have hu90 := Try.underlying90
 have ZA := asd (heap_alloc_new w (.cells #[.int .i64 1, .int .i64 kk, .int .i64 (k : Int), .int .i64 arr, .int .i64 wrk, .int .i64 dn, .slice A xs.length c] 65))
 have HB := below_alloc (Below.refl w.heap.size w) (.cells #[.int .i64 1, .int .i64 kk, .int .i64 (k : Int), .int .i64 arr, .int .i64 wrk, .int .i64 dn, .slice A xs.length c] 65)
 have HT := asd (hT.below HB)
 have HR := asd (hR.below HB)
 have HP := asd hP
 have HB0 := asd hb0
 have SLT : Aside0 (¬ T.S g w.heap.size) := ⟨fun q => Nat.lt_irrefl _ (hT.lt _ q)⟩
 have SNR : Aside0 (w.heap.size ≠ r) := ⟨fun q => by have := blk_lt hR.blk; omega⟩
 have CX := asd (And.intro hC (And.intro hc h70))
 clear hT hR hP hb0 hC hc h70 HB
 have a0 := (blk_cell ZA.out 0).trans rfl
 go_enter Try.func48, Try.ntmps48
 go_wp2
 generalize w.alloc (.cells #[.int .i64 1, .int .i64 kk, .int .i64 (k : Int), .int .i64 arr, .int .i64 wrk, .int .i64 dn, .slice A xs.length c] 65) = wa at ZA HT HR ⊢
 generalize w.heap.size = s at ZA SLT SNR ⊢
 clear a0
 refine start_ (n := 12) (S := fun w' => w'.cell? ⟨s, 2, none⟩ = some (.int .i64 (k : Int)) ∧ w'.cell? ⟨s, 3, none⟩ = some (.int .i64 arr) ∧ w'.cell? ⟨s, 4, none⟩ = some (.int .i64 wrk) ∧ w'.cell? ⟨s, 5, none⟩ = some (.int .i64 dn) ∧ w'.cell? ⟨s, 6, none⟩ = some (.slice A xs.length c)) (ds := [9]) #[false, false, false, false, false, false, false, false, false, false, false, false] (by kernel_rfl) rfl rfl ⟨(blk_cell ZA.out 2).trans rfl, (blk_cell ZA.out 3).trans rfl, (blk_cell ZA.out 4).trans rfl, (blk_cell ZA.out 5).trans rfl, (blk_cell ZA.out 6).trans rfl⟩ (fun hHeld => ?_); refine with_tabW do4_tab do4_bits (fun HT_ HW_ => ?_)
 have ZAa := asd (blk_drew ZA.out)
 have HTa := asd (HT.out.drew)
 have HRa := asd (HR.out.drew)
 clear HT HR
 generalize wa.drew = wb at ZAa HTa HRa hHeld ⊢
 refine pure_ (i := 0) (N := (some 19)) (v := ?_) (a' := ?_) #[true, false, false, false, false, false, false, false, false, false, false, false] rfl rfl (any_of HT_.out (by kernel_rfl)) (fun _ _ _ h => h) (Or.inl ⟨by rfl, ?_⟩) ?_ ?_
 rotate_left
 ·intro w'
  go_simp
  with_reducible rfl
 rotate_left
 ·simp only [Act.put, sB, i64_w, i32_w]
  rfl
 refine pure_ (i := 1) (N := (some 20)) (v := ?_) (a' := ?_) #[true, true, false, false, false, false, false, false, false, false, false, false] rfl rfl (any_of HT_.out (by kernel_rfl)) (fun _ _ _ h => h) (Or.inl ⟨by rfl, ?_⟩) ?_ ?_
 rotate_left
 ·intro w'
  go_simp
  with_reducible rfl
 rotate_left
 ·simp only [Act.put, sB, i64_w, i32_w]
  rfl
 refine take_ (i := 2) (N := (some 21)) (v := ?_) (a' := ?_) #[true, true, true, false, false, false, false, false, false, false, false, false] rfl rfl (take_ofW HT_.out HW_.out (by kernel_rfl)) (fun _ _ _ h => h) (Or.inl ⟨by rfl, ?_⟩) hHeld ?_ ?_
 rotate_left
 ·rintro w' ⟨s0, s1, s2, s3, s4⟩
  go_simp
  with_reducible rfl
 rotate_left
 ·simp only [Act.put, sB, i64_w, i32_w]
  rfl
 refine pure_ (i := 6) (N := (some 25)) (v := ?_) (a' := ?_) #[true, true, true, false, false, false, true, false, false, false, false, false] rfl rfl (any_of HT_.out (by kernel_rfl)) (fun _ _ _ h => h) (Or.inl ⟨by rfl, ?_⟩) ?_ ?_
 rotate_left
 ·intro w'
  go_simp
  with_reducible rfl
 rotate_left
 ·simp only [Act.put, sB, i64_w, i32_w]
  rfl
 refine pure_ (i := 7) (N := (some 26)) (v := ?_) (a' := ?_) #[true, true, true, false, false, false, true, true, false, false, false, false] rfl rfl (any_of HT_.out (by kernel_rfl)) (fun _ _ _ h => h) (Or.inl ⟨by rfl, ?_⟩) ?_ ?_
 rotate_left
 ·intro w'
  go_simp
  with_reducible rfl
 rotate_left
 ·simp only [Act.put, sB, i64_w, i32_w]
  rfl
 refine take_ (i := 8) (N := (some 27)) (v := ?_) (a' := ?_) #[true, true, true, false, false, false, true, true, true, false, false, false] rfl rfl (take_ofW HT_.out HW_.out (by kernel_rfl)) (fun _ _ _ h => h) (Or.inl ⟨by rfl, ?_⟩) hHeld ?_ ?_
 rotate_left
 ·rintro w' ⟨s0, s1, s2, s3, s4⟩
  go_simp
  with_reducible rfl
 rotate_left
 ·simp only [Act.put, sB, i64_w, i32_w]
  rfl
 refine one_ (i := 3) (N := (some 22)) #[true, true, true, true, false, false, true, true, true, false, false, false] rfl rfl (one_of HT_.out (by kernel_rfl)) (by decide) (fun K hK => ?_)
 refine goes_ Try.func39 (by kernel_rfl) rfl #[.agg #[.int .i64 (k : Int), .int .i64 arr, .int .i64 wrk, .int .i64 dn, .slice A xs.length c]] (by rfl) rfl rfl (by simp [Act.eval]) ?_
 refine (job_calls (k : Int) arr wrk dn A c xs wb (Kd.C_below CX.out.1 HRa.out.fr) CX.out.2.1 (by have := CX.out.2.2; omega)).mono ?_
 rintro e wc ⟨v, rfl, hv, hb⟩
 obtain ⟨Av, cv, rfl⟩ := Kd.R_slice hv
 have HV := asd (And.intro (C_ofR hv) (Kd.R_reads' hv).2.1)
 have HTc := asd (HTa.out.below hb)
 have HRc := asd (HRa.out.below hb)
 have ZAc := asd (blk_below ZAa.out hb)
 clear hv hb HTa HRa ZAa
 refine ⟨_, rfl, ?_⟩
 refine hK.out _ _ ⟨(blk_cell ZAc.out 2).trans rfl, (blk_cell ZAc.out 3).trans rfl, (blk_cell ZAc.out 4).trans rfl, (blk_cell ZAc.out 5).trans rfl, (blk_cell ZAc.out 6).trans rfl⟩ (fun hHeld => ?_)
 clear hK K
 refine norm_ (a' := ?_) ?_ ?_
 rotate_left
 ·show Act.put _ (some 22) _ = _
  simp only [Act.put, sB, i64_w, i32_w]
  rfl
 refine one_ (i := 4) (N := (some 23)) #[true, true, true, true, true, false, true, true, true, false, false, false] rfl rfl (one_of HT_.out (by kernel_rfl)) (by decide) (fun K hK => ?_)
 refine goes_ Try.func38 (by kernel_rfl) rfl #[.pointer (some ⟨g, 0, none⟩), .agg #[.int .i64 (k : Int), .int .i64 arr, .int .i64 wrk, .int .i64 dn, .slice Av (xs.map jop).length cv]] (by rfl) rfl rfl (by simp [Act.eval]) ?_
 refine (tput_bad HTc.out k arr wrk dn Av cv (xs.map jop) HK.out HV.out.1 HV.out.2 HJ.out).mono ?_
 rintro e wd ⟨rfl, hb⟩
 have HTd := asd (HTc.out.below hb)
 have HRd := asd (HRc.out.below hb)
 have ZAd := asd (blk_below ZAc.out hb)
 clear hb HTc HRc ZAc
 refine ⟨_, rfl, ?_⟩
 refine hK.out _ _ ⟨(blk_cell ZAd.out 2).trans rfl, (blk_cell ZAd.out 3).trans rfl, (blk_cell ZAd.out 4).trans rfl, (blk_cell ZAd.out 5).trans rfl, (blk_cell ZAd.out 6).trans rfl⟩ (fun hHeld => ?_)
 clear hK K
 refine norm_ (a' := ?_) ?_ ?_
 rotate_left
 ·show Act.put _ (some 23) _ = _
  simp only [Act.put, sB, i64_w, i32_w]
  rfl
 refine one_ (i := 5) (N := (some 24)) #[true, true, true, true, true, true, true, true, true, false, false, false] rfl rfl (one_of HT_.out (by kernel_rfl)) (by decide) (fun K hK => ?_)
 refine goes_ Try.func37 (by kernel_rfl) rfl #[.int .i64 1] (by rfl) rfl rfl (by simp [Act.eval]) ?_
 refine (parcloselaw19_num.calls _ _ _ rfl).mono ?_
 rintro e we ⟨rfl, hd⟩
 have HTe := asd (HTd.out.below hd.below)
 have HRe := asd (HRd.out.below hd.below)
 have ZAe := asd (blk_below ZAd.out hd.below)
 clear hd HTd HRd ZAd
 refine ⟨_, rfl, ?_⟩
 refine hK.out _ _ ⟨(blk_cell ZAe.out 2).trans rfl, (blk_cell ZAe.out 3).trans rfl, (blk_cell ZAe.out 4).trans rfl, (blk_cell ZAe.out 5).trans rfl, (blk_cell ZAe.out 6).trans rfl⟩ (fun hHeld => ?_)
 clear hK K
 refine norm_ (a' := ?_) ?_ ?_
 rotate_left
 ·show Act.put _ (some 24) _ = _
  simp only [Act.put, sB, i64_w, i32_w]
  rfl
 refine last_ (i := 9) (N := (some 28)) #[true, true, true, true, true, true, true, true, true, true, false, false] rfl rfl (one_of HT_.out (by kernel_rfl)) (by decide) (fun K hK => ?_)
 refine goes_ Try.func92 (by kernel_rfl) rfl #[.pointer (some ⟨r, 0, none⟩), .agg #[.int .i64 (k : Int), .int .i64 arr, .int .i64 wrk, .int .i64 dn, .slice A xs.length c]] (by rfl) rfl rfl (by simp [Act.eval]) ?_
 refine (rput_bad HRe.out (k : Int) arr wrk dn A c xs HNB.out).mono ?_
 rintro e wf ⟨rfl, hb⟩
 have HTf := asd (HTe.out.below hb)
 have HRf := asd (HRe.out.below hb)
 clear hb HTe HRe ZAe
 refine ⟨_, rfl, ?_⟩
 refine hK.out _ _ ?_
 clear hK K
 refine norm_ (a' := ?_) ?_ ?_
 rotate_left
 ·show Act.put _ (some 28) _ = _
  simp only [Act.put, sB, i64_w, i32_w]
  rfl
 refine pure_ (i := 10) (N := (some 29)) (v := ?_) (a' := ?_) #[true, true, true, true, true, true, true, true, true, true, true, false] rfl rfl (any_of HT_.out (by kernel_rfl)) (fun _ _ _ h => h) (Or.inl ⟨by rfl, ?_⟩) ?_ ?_
 rotate_left
 ·intro w'
  go_simp
  with_reducible rfl
 rotate_left
 ·simp only [Act.put, sB, i64_w, i32_w]
  rfl
 refine pure_ (i := 11) (N := (some 6)) (v := ?_) (a' := ?_) #[true, true, true, true, true, true, true, true, true, true, true, true] rfl rfl (any_of HT_.out (by kernel_rfl)) (fun _ _ _ h => h) (Or.inl ⟨by rfl, ?_⟩) ?_ ?_
 rotate_left
 ·intro w'
  go_simp
  with_reducible rfl
 rotate_left
 ·simp only [Act.put, sB, i64_w, i32_w]
  rfl
 refine done_ (done_of HT_.out (by kernel_rfl)) ?_
 try go_wp2
 go_ret
 exact ⟨rfl, T, R, HTf.out, HRf.out, HP.out⟩
set_option maxHeartbeats 32000000 in
set_option maxRecDepth 100000 in
theorem do_put1_there (hT : TabOK w base g T) (hR : RTab w w0 r R) (hb0 : w0.heap.size ≤ base) (hP : PI l T R) (kk arr wrk : Int) (A : Option Addr) (c : Nat) (xs : List S134) (hC : Kd.C k134 w0 A xs.length xs) (hc : xs.length ≤ c) (h70 : xs.length ≤ 70) (k b : Nat) (dn : Int) (hk : k < T.sl.length) (hbp : T.pt k = some b) (hj : rjob arr wrk dn (xs.map jop) = true) : Calls Try.prog 48 #[.pointer (some ⟨g, 0, none⟩), .pointer (some ⟨r, 0, none⟩), .agg #[.int .i64 1, .int .i64 kk, .int .i64 (k : Int), .int .i64 arr, .int .i64 wrk, .int .i64 dn, .slice A xs.length c]] w fun e w' => e = .returned (.bool true) ∧ DoPost w0 w' base g r l := by
 have hlen : R.K.length = T.sl.length := by rw [hP.K, hP.len]
 have HK := asd hk
 have HJ := asd hj
 have HBP := asd hbp
 have HIS := asd (hP.is_some hbp).1
 have HKR : Aside0 (k < R.K.length) := ⟨by rw [hlen]; exact hk⟩
 clear hk hj hlen hbp
 have hu65 := Try.underlying65
 have hu63 := Try.underlying63
 have hu76 := Try.underlying76
 have hu134 := Try.underlying134
 have hu90 := Try.underlying90
 have ZA := asd (heap_alloc_new w (.cells #[.int .i64 1, .int .i64 kk, .int .i64 (k : Int), .int .i64 arr, .int .i64 wrk, .int .i64 dn, .slice A xs.length c] 65))
 have HB := below_alloc (Below.refl w.heap.size w) (.cells #[.int .i64 1, .int .i64 kk, .int .i64 (k : Int), .int .i64 arr, .int .i64 wrk, .int .i64 dn, .slice A xs.length c] 65)
 have HT := asd (hT.below HB)
 have HR := asd (hR.below HB)
 have HP := asd hP
 have HB0 := asd hb0
 have SLT : Aside0 (¬ T.S g w.heap.size) := ⟨fun q => Nat.lt_irrefl _ (hT.lt _ q)⟩
 have SNR : Aside0 (w.heap.size ≠ r) := ⟨fun q => by have := blk_lt hR.blk; omega⟩
 have CX := asd (And.intro hC (And.intro hc h70))
 clear hT hR hP hb0 hC hc h70 HB
 have a0 := (blk_cell ZA.out 0).trans rfl
 go_enter Try.func48, Try.ntmps48
 go_wp2
 generalize w.alloc (.cells #[.int .i64 1, .int .i64 kk, .int .i64 (k : Int), .int .i64 arr, .int .i64 wrk, .int .i64 dn, .slice A xs.length c] 65) = wa at ZA HT HR ⊢
 generalize w.heap.size = s at ZA SLT SNR ⊢
 clear a0
 refine start_ (n := 12) (S := fun w' => w'.cell? ⟨s, 2, none⟩ = some (.int .i64 (k : Int)) ∧ w'.cell? ⟨s, 3, none⟩ = some (.int .i64 arr) ∧ w'.cell? ⟨s, 4, none⟩ = some (.int .i64 wrk) ∧ w'.cell? ⟨s, 5, none⟩ = some (.int .i64 dn) ∧ w'.cell? ⟨s, 6, none⟩ = some (.slice A xs.length c)) (ds := [9]) #[false, false, false, false, false, false, false, false, false, false, false, false] (by kernel_rfl) rfl rfl ⟨(blk_cell ZA.out 2).trans rfl, (blk_cell ZA.out 3).trans rfl, (blk_cell ZA.out 4).trans rfl, (blk_cell ZA.out 5).trans rfl, (blk_cell ZA.out 6).trans rfl⟩ (fun hHeld => ?_); refine with_tabW do4_tab do4_bits (fun HT_ HW_ => ?_)
 have ZAa := asd (blk_drew ZA.out)
 have HTa := asd (HT.out.drew)
 have HRa := asd (HR.out.drew)
 clear HT HR
 generalize wa.drew = wb at ZAa HTa HRa hHeld ⊢
 refine pure_ (i := 0) (N := (some 19)) (v := ?_) (a' := ?_) #[true, false, false, false, false, false, false, false, false, false, false, false] rfl rfl (any_of HT_.out (by kernel_rfl)) (fun _ _ _ h => h) (Or.inl ⟨by rfl, ?_⟩) ?_ ?_
 rotate_left
 ·intro w'
  go_simp
  with_reducible rfl
 rotate_left
 ·simp only [Act.put, sB, i64_w, i32_w]
  rfl
 refine pure_ (i := 1) (N := (some 20)) (v := ?_) (a' := ?_) #[true, true, false, false, false, false, false, false, false, false, false, false] rfl rfl (any_of HT_.out (by kernel_rfl)) (fun _ _ _ h => h) (Or.inl ⟨by rfl, ?_⟩) ?_ ?_
 rotate_left
 ·intro w'
  go_simp
  with_reducible rfl
 rotate_left
 ·simp only [Act.put, sB, i64_w, i32_w]
  rfl
 refine take_ (i := 2) (N := (some 21)) (v := ?_) (a' := ?_) #[true, true, true, false, false, false, false, false, false, false, false, false] rfl rfl (take_ofW HT_.out HW_.out (by kernel_rfl)) (fun _ _ _ h => h) (Or.inl ⟨by rfl, ?_⟩) hHeld ?_ ?_
 rotate_left
 ·rintro w' ⟨s0, s1, s2, s3, s4⟩
  go_simp
  with_reducible rfl
 rotate_left
 ·simp only [Act.put, sB, i64_w, i32_w]
  rfl
 refine pure_ (i := 6) (N := (some 25)) (v := ?_) (a' := ?_) #[true, true, true, false, false, false, true, false, false, false, false, false] rfl rfl (any_of HT_.out (by kernel_rfl)) (fun _ _ _ h => h) (Or.inl ⟨by rfl, ?_⟩) ?_ ?_
 rotate_left
 ·intro w'
  go_simp
  with_reducible rfl
 rotate_left
 ·simp only [Act.put, sB, i64_w, i32_w]
  rfl
 refine pure_ (i := 7) (N := (some 26)) (v := ?_) (a' := ?_) #[true, true, true, false, false, false, true, true, false, false, false, false] rfl rfl (any_of HT_.out (by kernel_rfl)) (fun _ _ _ h => h) (Or.inl ⟨by rfl, ?_⟩) ?_ ?_
 rotate_left
 ·intro w'
  go_simp
  with_reducible rfl
 rotate_left
 ·simp only [Act.put, sB, i64_w, i32_w]
  rfl
 refine take_ (i := 8) (N := (some 27)) (v := ?_) (a' := ?_) #[true, true, true, false, false, false, true, true, true, false, false, false] rfl rfl (take_ofW HT_.out HW_.out (by kernel_rfl)) (fun _ _ _ h => h) (Or.inl ⟨by rfl, ?_⟩) hHeld ?_ ?_
 rotate_left
 ·rintro w' ⟨s0, s1, s2, s3, s4⟩
  go_simp
  with_reducible rfl
 rotate_left
 ·simp only [Act.put, sB, i64_w, i32_w]
  rfl
 refine one_ (i := 3) (N := (some 22)) #[true, true, true, true, false, false, true, true, true, false, false, false] rfl rfl (one_of HT_.out (by kernel_rfl)) (by decide) (fun K hK => ?_)
 refine goes_ Try.func39 (by kernel_rfl) rfl #[.agg #[.int .i64 (k : Int), .int .i64 arr, .int .i64 wrk, .int .i64 dn, .slice A xs.length c]] (by rfl) rfl rfl (by simp [Act.eval]) ?_
 refine (job_calls (k : Int) arr wrk dn A c xs wb (Kd.C_below CX.out.1 HRa.out.fr) CX.out.2.1 (by have := CX.out.2.2; omega)).mono ?_
 rintro e wc ⟨v, rfl, hv, hb⟩
 obtain ⟨Av, cv, rfl⟩ := Kd.R_slice hv
 have HV := asd (And.intro (C_ofR hv) (Kd.R_reads' hv).2.1)
 have HTc := asd (HTa.out.below hb)
 have HRc := asd (HRa.out.below hb)
 have ZAc := asd (blk_below ZAa.out hb)
 clear hv hb HTa HRa ZAa
 refine ⟨_, rfl, ?_⟩
 refine hK.out _ _ ⟨(blk_cell ZAc.out 2).trans rfl, (blk_cell ZAc.out 3).trans rfl, (blk_cell ZAc.out 4).trans rfl, (blk_cell ZAc.out 5).trans rfl, (blk_cell ZAc.out 6).trans rfl⟩ (fun hHeld => ?_)
 clear hK K
 refine norm_ (a' := ?_) ?_ ?_
 rotate_left
 ·show Act.put _ (some 22) _ = _
  simp only [Act.put, sB, i64_w, i32_w]
  rfl
 refine one_ (i := 4) (N := (some 23)) #[true, true, true, true, true, false, true, true, true, false, false, false] rfl rfl (one_of HT_.out (by kernel_rfl)) (by decide) (fun K hK => ?_)
 refine goes_ Try.func38 (by kernel_rfl) rfl #[.pointer (some ⟨g, 0, none⟩), .agg #[.int .i64 (k : Int), .int .i64 arr, .int .i64 wrk, .int .i64 dn, .slice Av (xs.map jop).length cv]] (by rfl) rfl rfl (by simp [Act.eval]) ?_
 refine (tput_there HTc.out k b arr wrk dn Av cv (xs.map jop) HK.out HBP.out HV.out.1 HV.out.2 HJ.out).mono ?_
 rintro e wd ⟨rfl, hb⟩
 have HTd := asd (HTc.out.below hb)
 have HRd := asd (HRc.out.below hb)
 have ZAd := asd (blk_below ZAc.out hb)
 clear hb HTc HRc ZAc
 refine ⟨_, rfl, ?_⟩
 refine hK.out _ _ ⟨(blk_cell ZAd.out 2).trans rfl, (blk_cell ZAd.out 3).trans rfl, (blk_cell ZAd.out 4).trans rfl, (blk_cell ZAd.out 5).trans rfl, (blk_cell ZAd.out 6).trans rfl⟩ (fun hHeld => ?_)
 clear hK K
 refine norm_ (a' := ?_) ?_ ?_
 rotate_left
 ·show Act.put _ (some 23) _ = _
  simp only [Act.put, sB, i64_w, i32_w]
  rfl
 refine one_ (i := 5) (N := (some 24)) #[true, true, true, true, true, true, true, true, true, false, false, false] rfl rfl (one_of HT_.out (by kernel_rfl)) (by decide) (fun K hK => ?_)
 refine goes_ Try.func37 (by kernel_rfl) rfl #[.int .i64 4] (by rfl) rfl rfl (by simp [Act.eval]) ?_
 refine (parcloselaw19_num.calls _ _ _ rfl).mono ?_
 rintro e we ⟨rfl, hd⟩
 have HTe := asd (HTd.out.below hd.below)
 have HRe := asd (HRd.out.below hd.below)
 have ZAe := asd (blk_below ZAd.out hd.below)
 clear hd HTd HRd ZAd
 refine ⟨_, rfl, ?_⟩
 refine hK.out _ _ ⟨(blk_cell ZAe.out 2).trans rfl, (blk_cell ZAe.out 3).trans rfl, (blk_cell ZAe.out 4).trans rfl, (blk_cell ZAe.out 5).trans rfl, (blk_cell ZAe.out 6).trans rfl⟩ (fun hHeld => ?_)
 clear hK K
 refine norm_ (a' := ?_) ?_ ?_
 rotate_left
 ·show Act.put _ (some 24) _ = _
  simp only [Act.put, sB, i64_w, i32_w]
  rfl
 refine last_ (i := 9) (N := (some 28)) #[true, true, true, true, true, true, true, true, true, true, false, false] rfl rfl (one_of HT_.out (by kernel_rfl)) (by decide) (fun K hK => ?_)
 refine goes_ Try.func92 (by kernel_rfl) rfl #[.pointer (some ⟨r, 0, none⟩), .agg #[.int .i64 (k : Int), .int .i64 arr, .int .i64 wrk, .int .i64 dn, .slice A xs.length c]] (by rfl) rfl rfl (by simp [Act.eval]) ?_
 refine (rput_there HRe.out k arr wrk dn A c xs HKR.out HIS.out HJ.out).mono ?_
 rintro e wf ⟨rfl, hb⟩
 have HTf := asd (HTe.out.below hb)
 have HRf := asd (HRe.out.below hb)
 clear hb HTe HRe ZAe
 refine ⟨_, rfl, ?_⟩
 refine hK.out _ _ ?_
 clear hK K
 refine norm_ (a' := ?_) ?_ ?_
 rotate_left
 ·show Act.put _ (some 28) _ = _
  simp only [Act.put, sB, i64_w, i32_w]
  rfl
 refine pure_ (i := 10) (N := (some 29)) (v := ?_) (a' := ?_) #[true, true, true, true, true, true, true, true, true, true, true, false] rfl rfl (any_of HT_.out (by kernel_rfl)) (fun _ _ _ h => h) (Or.inl ⟨by rfl, ?_⟩) ?_ ?_
 rotate_left
 ·intro w'
  go_simp
  with_reducible rfl
 rotate_left
 ·simp only [Act.put, sB, i64_w, i32_w]
  rfl
 refine pure_ (i := 11) (N := (some 6)) (v := ?_) (a' := ?_) #[true, true, true, true, true, true, true, true, true, true, true, true] rfl rfl (any_of HT_.out (by kernel_rfl)) (fun _ _ _ h => h) (Or.inl ⟨by rfl, ?_⟩) ?_ ?_
 rotate_left
 ·intro w'
  go_simp
  with_reducible rfl
 rotate_left
 ·simp only [Act.put, sB, i64_w, i32_w]
  rfl
 refine done_ (done_of HT_.out (by kernel_rfl)) ?_
 try go_wp2
 go_ret
 exact ⟨rfl, T, R, HTf.out, HRf.out, HP.out⟩
set_option maxHeartbeats 32000000 in
set_option maxRecDepth 100000 in
theorem do_put1_drop (hT : TabOK w base g T) (hR : RTab w w0 r R) (hb0 : w0.heap.size ≤ base) (hP : PI l T R) (kk arr wrk : Int) (A : Option Addr) (c : Nat) (xs : List S134) (hC : Kd.C k134 w0 A xs.length xs) (hc : xs.length ≤ c) (h70 : xs.length ≤ 70) (k : Nat) (dn : Int) (hk : k < T.sl.length) (hbp : T.pt k = none) (hh : T.hi = true) (hf : (T.tk k).f0 = false) (hj : rjob arr wrk dn (xs.map jop) = true) : Calls Try.prog 48 #[.pointer (some ⟨g, 0, none⟩), .pointer (some ⟨r, 0, none⟩), .agg #[.int .i64 1, .int .i64 kk, .int .i64 (k : Int), .int .i64 arr, .int .i64 wrk, .int .i64 dn, .slice A xs.length c]] w fun e w' => e = .returned (.bool true) ∧ DoPost w0 w' base g r l := by
 have hlen : R.K.length = T.sl.length := by rw [hP.K, hP.len]
 have HK := asd hk
 have HJ := asd hj
 have HBP := asd hbp
 have HIS := asd (hP.is_none hbp)
 have HKR : Aside0 (k < R.K.length) := ⟨by rw [hlen]; exact hk⟩
 have HH := asd hh
 have HHR : Aside0 (R.hi = true) := ⟨by rw [hP.hi]; exact hh⟩
 have HF := asd hf
 have HFR : Aside0 ((R.tk k).f0 = false) := ⟨by rw [hP.rtk (by rw [← hP.len]; exact hk)]; exact hf⟩
 clear hk hj hlen hbp hh hf
 have hu65 := Try.underlying65
 have hu63 := Try.underlying63
 have hu76 := Try.underlying76
 have hu134 := Try.underlying134
 have hu90 := Try.underlying90
 have ZA := asd (heap_alloc_new w (.cells #[.int .i64 1, .int .i64 kk, .int .i64 (k : Int), .int .i64 arr, .int .i64 wrk, .int .i64 dn, .slice A xs.length c] 65))
 have HB := below_alloc (Below.refl w.heap.size w) (.cells #[.int .i64 1, .int .i64 kk, .int .i64 (k : Int), .int .i64 arr, .int .i64 wrk, .int .i64 dn, .slice A xs.length c] 65)
 have HT := asd (hT.below HB)
 have HR := asd (hR.below HB)
 have HP := asd hP
 have HB0 := asd hb0
 have SLT : Aside0 (¬ T.S g w.heap.size) := ⟨fun q => Nat.lt_irrefl _ (hT.lt _ q)⟩
 have SNR : Aside0 (w.heap.size ≠ r) := ⟨fun q => by have := blk_lt hR.blk; omega⟩
 have CX := asd (And.intro hC (And.intro hc h70))
 clear hT hR hP hb0 hC hc h70 HB
 have a0 := (blk_cell ZA.out 0).trans rfl
 go_enter Try.func48, Try.ntmps48
 go_wp2
 generalize w.alloc (.cells #[.int .i64 1, .int .i64 kk, .int .i64 (k : Int), .int .i64 arr, .int .i64 wrk, .int .i64 dn, .slice A xs.length c] 65) = wa at ZA HT HR ⊢
 generalize w.heap.size = s at ZA SLT SNR ⊢
 clear a0
 refine start_ (n := 12) (S := fun w' => w'.cell? ⟨s, 2, none⟩ = some (.int .i64 (k : Int)) ∧ w'.cell? ⟨s, 3, none⟩ = some (.int .i64 arr) ∧ w'.cell? ⟨s, 4, none⟩ = some (.int .i64 wrk) ∧ w'.cell? ⟨s, 5, none⟩ = some (.int .i64 dn) ∧ w'.cell? ⟨s, 6, none⟩ = some (.slice A xs.length c)) (ds := [9]) #[false, false, false, false, false, false, false, false, false, false, false, false] (by kernel_rfl) rfl rfl ⟨(blk_cell ZA.out 2).trans rfl, (blk_cell ZA.out 3).trans rfl, (blk_cell ZA.out 4).trans rfl, (blk_cell ZA.out 5).trans rfl, (blk_cell ZA.out 6).trans rfl⟩ (fun hHeld => ?_); refine with_tabW do4_tab do4_bits (fun HT_ HW_ => ?_)
 have ZAa := asd (blk_drew ZA.out)
 have HTa := asd (HT.out.drew)
 have HRa := asd (HR.out.drew)
 clear HT HR
 generalize wa.drew = wb at ZAa HTa HRa hHeld ⊢
 refine pure_ (i := 0) (N := (some 19)) (v := ?_) (a' := ?_) #[true, false, false, false, false, false, false, false, false, false, false, false] rfl rfl (any_of HT_.out (by kernel_rfl)) (fun _ _ _ h => h) (Or.inl ⟨by rfl, ?_⟩) ?_ ?_
 rotate_left
 ·intro w'
  go_simp
  with_reducible rfl
 rotate_left
 ·simp only [Act.put, sB, i64_w, i32_w]
  rfl
 refine pure_ (i := 1) (N := (some 20)) (v := ?_) (a' := ?_) #[true, true, false, false, false, false, false, false, false, false, false, false] rfl rfl (any_of HT_.out (by kernel_rfl)) (fun _ _ _ h => h) (Or.inl ⟨by rfl, ?_⟩) ?_ ?_
 rotate_left
 ·intro w'
  go_simp
  with_reducible rfl
 rotate_left
 ·simp only [Act.put, sB, i64_w, i32_w]
  rfl
 refine take_ (i := 2) (N := (some 21)) (v := ?_) (a' := ?_) #[true, true, true, false, false, false, false, false, false, false, false, false] rfl rfl (take_ofW HT_.out HW_.out (by kernel_rfl)) (fun _ _ _ h => h) (Or.inl ⟨by rfl, ?_⟩) hHeld ?_ ?_
 rotate_left
 ·rintro w' ⟨s0, s1, s2, s3, s4⟩
  go_simp
  with_reducible rfl
 rotate_left
 ·simp only [Act.put, sB, i64_w, i32_w]
  rfl
 refine pure_ (i := 6) (N := (some 25)) (v := ?_) (a' := ?_) #[true, true, true, false, false, false, true, false, false, false, false, false] rfl rfl (any_of HT_.out (by kernel_rfl)) (fun _ _ _ h => h) (Or.inl ⟨by rfl, ?_⟩) ?_ ?_
 rotate_left
 ·intro w'
  go_simp
  with_reducible rfl
 rotate_left
 ·simp only [Act.put, sB, i64_w, i32_w]
  rfl
 refine pure_ (i := 7) (N := (some 26)) (v := ?_) (a' := ?_) #[true, true, true, false, false, false, true, true, false, false, false, false] rfl rfl (any_of HT_.out (by kernel_rfl)) (fun _ _ _ h => h) (Or.inl ⟨by rfl, ?_⟩) ?_ ?_
 rotate_left
 ·intro w'
  go_simp
  with_reducible rfl
 rotate_left
 ·simp only [Act.put, sB, i64_w, i32_w]
  rfl
 refine take_ (i := 8) (N := (some 27)) (v := ?_) (a' := ?_) #[true, true, true, false, false, false, true, true, true, false, false, false] rfl rfl (take_ofW HT_.out HW_.out (by kernel_rfl)) (fun _ _ _ h => h) (Or.inl ⟨by rfl, ?_⟩) hHeld ?_ ?_
 rotate_left
 ·rintro w' ⟨s0, s1, s2, s3, s4⟩
  go_simp
  with_reducible rfl
 rotate_left
 ·simp only [Act.put, sB, i64_w, i32_w]
  rfl
 refine one_ (i := 3) (N := (some 22)) #[true, true, true, true, false, false, true, true, true, false, false, false] rfl rfl (one_of HT_.out (by kernel_rfl)) (by decide) (fun K hK => ?_)
 refine goes_ Try.func39 (by kernel_rfl) rfl #[.agg #[.int .i64 (k : Int), .int .i64 arr, .int .i64 wrk, .int .i64 dn, .slice A xs.length c]] (by rfl) rfl rfl (by simp [Act.eval]) ?_
 refine (job_calls (k : Int) arr wrk dn A c xs wb (Kd.C_below CX.out.1 HRa.out.fr) CX.out.2.1 (by have := CX.out.2.2; omega)).mono ?_
 rintro e wc ⟨v, rfl, hv, hb⟩
 obtain ⟨Av, cv, rfl⟩ := Kd.R_slice hv
 have HV := asd (And.intro (C_ofR hv) (Kd.R_reads' hv).2.1)
 have HTc := asd (HTa.out.below hb)
 have HRc := asd (HRa.out.below hb)
 have ZAc := asd (blk_below ZAa.out hb)
 clear hv hb HTa HRa ZAa
 refine ⟨_, rfl, ?_⟩
 refine hK.out _ _ ⟨(blk_cell ZAc.out 2).trans rfl, (blk_cell ZAc.out 3).trans rfl, (blk_cell ZAc.out 4).trans rfl, (blk_cell ZAc.out 5).trans rfl, (blk_cell ZAc.out 6).trans rfl⟩ (fun hHeld => ?_)
 clear hK K
 refine norm_ (a' := ?_) ?_ ?_
 rotate_left
 ·show Act.put _ (some 22) _ = _
  simp only [Act.put, sB, i64_w, i32_w]
  rfl
 refine one_ (i := 4) (N := (some 23)) #[true, true, true, true, true, false, true, true, true, false, false, false] rfl rfl (one_of HT_.out (by kernel_rfl)) (by decide) (fun K hK => ?_)
 refine goes_ Try.func38 (by kernel_rfl) rfl #[.pointer (some ⟨g, 0, none⟩), .agg #[.int .i64 (k : Int), .int .i64 arr, .int .i64 wrk, .int .i64 dn, .slice Av (xs.map jop).length cv]] (by rfl) rfl rfl (by simp [Act.eval]) ?_
 refine (tput_drop HTc.out k arr wrk dn Av cv (xs.map jop) HK.out HBP.out HH.out HF.out HV.out.1 HV.out.2 HJ.out).mono ?_
 rintro e wd ⟨rfl, hb⟩
 have HTd := asd (HTc.out.below hb)
 have HRd := asd (HRc.out.below hb)
 have ZAd := asd (blk_below ZAc.out hb)
 clear hb HTc HRc ZAc
 refine ⟨_, rfl, ?_⟩
 refine hK.out _ _ ⟨(blk_cell ZAd.out 2).trans rfl, (blk_cell ZAd.out 3).trans rfl, (blk_cell ZAd.out 4).trans rfl, (blk_cell ZAd.out 5).trans rfl, (blk_cell ZAd.out 6).trans rfl⟩ (fun hHeld => ?_)
 clear hK K
 refine norm_ (a' := ?_) ?_ ?_
 rotate_left
 ·show Act.put _ (some 23) _ = _
  simp only [Act.put, sB, i64_w, i32_w]
  rfl
 refine one_ (i := 5) (N := (some 24)) #[true, true, true, true, true, true, true, true, true, false, false, false] rfl rfl (one_of HT_.out (by kernel_rfl)) (by decide) (fun K hK => ?_)
 refine goes_ Try.func37 (by kernel_rfl) rfl #[.int .i64 42] (by rfl) rfl rfl (by simp [Act.eval]) ?_
 refine (parcloselaw19_num.calls _ _ _ rfl).mono ?_
 rintro e we ⟨rfl, hd⟩
 have HTe := asd (HTd.out.below hd.below)
 have HRe := asd (HRd.out.below hd.below)
 have ZAe := asd (blk_below ZAd.out hd.below)
 clear hd HTd HRd ZAd
 refine ⟨_, rfl, ?_⟩
 refine hK.out _ _ ⟨(blk_cell ZAe.out 2).trans rfl, (blk_cell ZAe.out 3).trans rfl, (blk_cell ZAe.out 4).trans rfl, (blk_cell ZAe.out 5).trans rfl, (blk_cell ZAe.out 6).trans rfl⟩ (fun hHeld => ?_)
 clear hK K
 refine norm_ (a' := ?_) ?_ ?_
 rotate_left
 ·show Act.put _ (some 24) _ = _
  simp only [Act.put, sB, i64_w, i32_w]
  rfl
 refine last_ (i := 9) (N := (some 28)) #[true, true, true, true, true, true, true, true, true, true, false, false] rfl rfl (one_of HT_.out (by kernel_rfl)) (by decide) (fun K hK => ?_)
 refine goes_ Try.func92 (by kernel_rfl) rfl #[.pointer (some ⟨r, 0, none⟩), .agg #[.int .i64 (k : Int), .int .i64 arr, .int .i64 wrk, .int .i64 dn, .slice A xs.length c]] (by rfl) rfl rfl (by simp [Act.eval]) ?_
 refine (rput_drop HRe.out k arr wrk dn A c xs HKR.out HIS.out HHR.out HFR.out HJ.out).mono ?_
 rintro e wf ⟨rfl, hb⟩
 have HTf := asd (HTe.out.below hb)
 have HRf := asd (HRe.out.below hb)
 clear hb HTe HRe ZAe
 refine ⟨_, rfl, ?_⟩
 refine hK.out _ _ ?_
 clear hK K
 refine norm_ (a' := ?_) ?_ ?_
 rotate_left
 ·show Act.put _ (some 28) _ = _
  simp only [Act.put, sB, i64_w, i32_w]
  rfl
 refine pure_ (i := 10) (N := (some 29)) (v := ?_) (a' := ?_) #[true, true, true, true, true, true, true, true, true, true, true, false] rfl rfl (any_of HT_.out (by kernel_rfl)) (fun _ _ _ h => h) (Or.inl ⟨by rfl, ?_⟩) ?_ ?_
 rotate_left
 ·intro w'
  go_simp
  with_reducible rfl
 rotate_left
 ·simp only [Act.put, sB, i64_w, i32_w]
  rfl
 refine pure_ (i := 11) (N := (some 6)) (v := ?_) (a' := ?_) #[true, true, true, true, true, true, true, true, true, true, true, true] rfl rfl (any_of HT_.out (by kernel_rfl)) (fun _ _ _ h => h) (Or.inl ⟨by rfl, ?_⟩) ?_ ?_
 rotate_left
 ·intro w'
  go_simp
  with_reducible rfl
 rotate_left
 ·simp only [Act.put, sB, i64_w, i32_w]
  rfl
 refine done_ (done_of HT_.out (by kernel_rfl)) ?_
 try go_wp2
 go_ret
 exact ⟨rfl, T, R, HTf.out, HRf.out, HP.out⟩
set_option maxHeartbeats 32000000 in
set_option maxRecDepth 100000 in
theorem do_put1_ok (hT : TabOK w base g T) (hR : RTab w w0 r R) (hb0 : w0.heap.size ≤ base) (hP : PI l T R) (kk arr wrk : Int) (A : Option Addr) (c : Nat) (xs : List S134) (hC : Kd.C k134 w0 A xs.length xs) (hc : xs.length ≤ c) (h70 : xs.length ≤ 70) (k : Nat) (hk : k < T.sl.length) (hbp : T.pt k = none) (hh : T.hi = false ∨ (T.tk k).f0 = true) (hj : rjob arr wrk 0 (xs.map jop) = true) : Calls Try.prog 48 #[.pointer (some ⟨g, 0, none⟩), .pointer (some ⟨r, 0, none⟩), .agg #[.int .i64 1, .int .i64 kk, .int .i64 (k : Int), .int .i64 arr, .int .i64 wrk, .int .i64 0, .slice A xs.length c]] w fun e w' => e = .returned (.bool true) ∧ DoPost w0 w' base g r l := by
 have hlen : R.K.length = T.sl.length := by rw [hP.K, hP.len]
 have HK := asd hk
 have HJ := asd hj
 have HBP := asd hbp
 have HIS := asd (hP.is_none hbp)
 have HKR : Aside0 (k < R.K.length) := ⟨by rw [hlen]; exact hk⟩
 have HH := asd hh
 have HHR : Aside0 (R.hi = false ∨ (R.tk k).f0 = true) := ⟨by rw [hP.hi, hP.rtk (by rw [← hP.len]; exact hk)]; exact hh⟩
 clear hk hj hlen hbp hh
 have hu65 := Try.underlying65
 have hu63 := Try.underlying63
 have hu76 := Try.underlying76
 have hu134 := Try.underlying134
 have hu90 := Try.underlying90
 have ZA := asd (heap_alloc_new w (.cells #[.int .i64 1, .int .i64 kk, .int .i64 (k : Int), .int .i64 arr, .int .i64 wrk, .int .i64 0, .slice A xs.length c] 65))
 have HB := below_alloc (Below.refl w.heap.size w) (.cells #[.int .i64 1, .int .i64 kk, .int .i64 (k : Int), .int .i64 arr, .int .i64 wrk, .int .i64 0, .slice A xs.length c] 65)
 have HT := asd (hT.below HB)
 have HR := asd (hR.below HB)
 have HP := asd hP
 have HB0 := asd hb0
 have SLT : Aside0 (¬ T.S g w.heap.size) := ⟨fun q => Nat.lt_irrefl _ (hT.lt _ q)⟩
 have SNR : Aside0 (w.heap.size ≠ r) := ⟨fun q => by have := blk_lt hR.blk; omega⟩
 have CX := asd (And.intro hC (And.intro hc h70))
 clear hT hR hP hb0 hC hc h70 HB
 have a0 := (blk_cell ZA.out 0).trans rfl
 go_enter Try.func48, Try.ntmps48
 go_wp2
 generalize w.alloc (.cells #[.int .i64 1, .int .i64 kk, .int .i64 (k : Int), .int .i64 arr, .int .i64 wrk, .int .i64 0, .slice A xs.length c] 65) = wa at ZA HT HR ⊢
 generalize w.heap.size = s at ZA SLT SNR ⊢
 clear a0
 refine start_ (n := 12) (S := fun w' => w'.cell? ⟨s, 2, none⟩ = some (.int .i64 (k : Int)) ∧ w'.cell? ⟨s, 3, none⟩ = some (.int .i64 arr) ∧ w'.cell? ⟨s, 4, none⟩ = some (.int .i64 wrk) ∧ w'.cell? ⟨s, 5, none⟩ = some (.int .i64 0) ∧ w'.cell? ⟨s, 6, none⟩ = some (.slice A xs.length c)) (ds := [9]) #[false, false, false, false, false, false, false, false, false, false, false, false] (by kernel_rfl) rfl rfl ⟨(blk_cell ZA.out 2).trans rfl, (blk_cell ZA.out 3).trans rfl, (blk_cell ZA.out 4).trans rfl, (blk_cell ZA.out 5).trans rfl, (blk_cell ZA.out 6).trans rfl⟩ (fun hHeld => ?_); refine with_tabW do4_tab do4_bits (fun HT_ HW_ => ?_)
 have ZAa := asd (blk_drew ZA.out)
 have HTa := asd (HT.out.drew)
 have HRa := asd (HR.out.drew)
 clear HT HR
 generalize wa.drew = wb at ZAa HTa HRa hHeld ⊢
 refine pure_ (i := 0) (N := (some 19)) (v := ?_) (a' := ?_) #[true, false, false, false, false, false, false, false, false, false, false, false] rfl rfl (any_of HT_.out (by kernel_rfl)) (fun _ _ _ h => h) (Or.inl ⟨by rfl, ?_⟩) ?_ ?_
 rotate_left
 ·intro w'
  go_simp
  with_reducible rfl
 rotate_left
 ·simp only [Act.put, sB, i64_w, i32_w]
  rfl
 refine pure_ (i := 1) (N := (some 20)) (v := ?_) (a' := ?_) #[true, true, false, false, false, false, false, false, false, false, false, false] rfl rfl (any_of HT_.out (by kernel_rfl)) (fun _ _ _ h => h) (Or.inl ⟨by rfl, ?_⟩) ?_ ?_
 rotate_left
 ·intro w'
  go_simp
  with_reducible rfl
 rotate_left
 ·simp only [Act.put, sB, i64_w, i32_w]
  rfl
 refine take_ (i := 2) (N := (some 21)) (v := ?_) (a' := ?_) #[true, true, true, false, false, false, false, false, false, false, false, false] rfl rfl (take_ofW HT_.out HW_.out (by kernel_rfl)) (fun _ _ _ h => h) (Or.inl ⟨by rfl, ?_⟩) hHeld ?_ ?_
 rotate_left
 ·rintro w' ⟨s0, s1, s2, s3, s4⟩
  go_simp
  with_reducible rfl
 rotate_left
 ·simp only [Act.put, sB, i64_w, i32_w]
  rfl
 refine pure_ (i := 6) (N := (some 25)) (v := ?_) (a' := ?_) #[true, true, true, false, false, false, true, false, false, false, false, false] rfl rfl (any_of HT_.out (by kernel_rfl)) (fun _ _ _ h => h) (Or.inl ⟨by rfl, ?_⟩) ?_ ?_
 rotate_left
 ·intro w'
  go_simp
  with_reducible rfl
 rotate_left
 ·simp only [Act.put, sB, i64_w, i32_w]
  rfl
 refine pure_ (i := 7) (N := (some 26)) (v := ?_) (a' := ?_) #[true, true, true, false, false, false, true, true, false, false, false, false] rfl rfl (any_of HT_.out (by kernel_rfl)) (fun _ _ _ h => h) (Or.inl ⟨by rfl, ?_⟩) ?_ ?_
 rotate_left
 ·intro w'
  go_simp
  with_reducible rfl
 rotate_left
 ·simp only [Act.put, sB, i64_w, i32_w]
  rfl
 refine take_ (i := 8) (N := (some 27)) (v := ?_) (a' := ?_) #[true, true, true, false, false, false, true, true, true, false, false, false] rfl rfl (take_ofW HT_.out HW_.out (by kernel_rfl)) (fun _ _ _ h => h) (Or.inl ⟨by rfl, ?_⟩) hHeld ?_ ?_
 rotate_left
 ·rintro w' ⟨s0, s1, s2, s3, s4⟩
  go_simp
  with_reducible rfl
 rotate_left
 ·simp only [Act.put, sB, i64_w, i32_w]
  rfl
 refine one_ (i := 3) (N := (some 22)) #[true, true, true, true, false, false, true, true, true, false, false, false] rfl rfl (one_of HT_.out (by kernel_rfl)) (by decide) (fun K hK => ?_)
 refine goes_ Try.func39 (by kernel_rfl) rfl #[.agg #[.int .i64 (k : Int), .int .i64 arr, .int .i64 wrk, .int .i64 0, .slice A xs.length c]] (by rfl) rfl rfl (by simp [Act.eval]) ?_
 refine (job_calls (k : Int) arr wrk 0 A c xs wb (Kd.C_below CX.out.1 HRa.out.fr) CX.out.2.1 (by have := CX.out.2.2; omega)).mono ?_
 rintro e wc ⟨v, rfl, hv, hb⟩
 obtain ⟨Av, cv, rfl⟩ := Kd.R_slice hv
 have HV := asd (And.intro (C_ofR hv) (Kd.R_reads' hv).2.1)
 have HTc := asd (HTa.out.below hb)
 have HRc := asd (HRa.out.below hb)
 have ZAc := asd (blk_below ZAa.out hb)
 clear hv hb HTa HRa ZAa
 refine ⟨_, rfl, ?_⟩
 refine hK.out _ _ ⟨(blk_cell ZAc.out 2).trans rfl, (blk_cell ZAc.out 3).trans rfl, (blk_cell ZAc.out 4).trans rfl, (blk_cell ZAc.out 5).trans rfl, (blk_cell ZAc.out 6).trans rfl⟩ (fun hHeld => ?_)
 clear hK K
 refine norm_ (a' := ?_) ?_ ?_
 rotate_left
 ·show Act.put _ (some 22) _ = _
  simp only [Act.put, sB, i64_w, i32_w]
  rfl
 refine one_ (i := 4) (N := (some 23)) #[true, true, true, true, true, false, true, true, true, false, false, false] rfl rfl (one_of HT_.out (by kernel_rfl)) (by decide) (fun K hK => ?_)
 refine goes_ Try.func38 (by kernel_rfl) rfl #[.pointer (some ⟨g, 0, none⟩), .agg #[.int .i64 (k : Int), .int .i64 arr, .int .i64 wrk, .int .i64 0, .slice Av (xs.map jop).length cv]] (by rfl) rfl rfl (by simp [Act.eval]) ?_
 refine (tput_ok HTc.out k arr wrk Av cv (xs.map jop) HK.out HBP.out HH.out HV.out.1 HV.out.2 HJ.out).mono ?_
 rintro e wd ⟨rfl, T2, h2, r2, c2, s2⟩
 have HTd := asd h2
 have RL := asd r2
 have HRd := asd (HRc.out.other (wt := wc) HTc.out HB0.out c2)
 have ZAd := asd (blk_chg ZAc.out c2 SLT.out)
 clear h2 r2 c2 s2 HTc HRc ZAc
 refine ⟨_, rfl, ?_⟩
 refine hK.out _ _ ⟨(blk_cell ZAd.out 2).trans rfl, (blk_cell ZAd.out 3).trans rfl, (blk_cell ZAd.out 4).trans rfl, (blk_cell ZAd.out 5).trans rfl, (blk_cell ZAd.out 6).trans rfl⟩ (fun hHeld => ?_)
 clear hK K
 refine norm_ (a' := ?_) ?_ ?_
 rotate_left
 ·show Act.put _ (some 23) _ = _
  simp only [Act.put, sB, i64_w, i32_w]
  rfl
 refine one_ (i := 5) (N := (some 24)) #[true, true, true, true, true, true, true, true, true, false, false, false] rfl rfl (one_of HT_.out (by kernel_rfl)) (by decide) (fun K hK => ?_)
 refine goes_ Try.func37 (by kernel_rfl) rfl #[.int .i64 0] (by rfl) rfl rfl (by simp [Act.eval]) ?_
 refine (parcloselaw19_num.calls _ _ _ rfl).mono ?_
 rintro e we ⟨rfl, hd⟩
 have HTe := asd (HTd.out.below hd.below)
 have HRe := asd (HRd.out.below hd.below)
 have ZAe := asd (blk_below ZAd.out hd.below)
 clear hd HTd HRd ZAd
 refine ⟨_, rfl, ?_⟩
 refine hK.out _ _ ⟨(blk_cell ZAe.out 2).trans rfl, (blk_cell ZAe.out 3).trans rfl, (blk_cell ZAe.out 4).trans rfl, (blk_cell ZAe.out 5).trans rfl, (blk_cell ZAe.out 6).trans rfl⟩ (fun hHeld => ?_)
 clear hK K
 refine norm_ (a' := ?_) ?_ ?_
 rotate_left
 ·show Act.put _ (some 24) _ = _
  simp only [Act.put, sB, i64_w, i32_w]
  rfl
 refine last_ (i := 9) (N := (some 28)) #[true, true, true, true, true, true, true, true, true, true, false, false] rfl rfl (one_of HT_.out (by kernel_rfl)) (by decide) (fun K hK => ?_)
 refine goes_ Try.func92 (by kernel_rfl) rfl #[.pointer (some ⟨r, 0, none⟩), .agg #[.int .i64 (k : Int), .int .i64 arr, .int .i64 wrk, .int .i64 0, .slice A xs.length c]] (by rfl) rfl rfl (by simp [Act.eval]) ?_
 refine (rput_ok HRe.out k arr wrk A c xs HKR.out HIS.out HHR.out CX.out.1 CX.out.2.1 HJ.out).mono ?_
 rintro e wf ⟨rfl, R3, h3, k3, i3, j3, c3⟩
 have HRf := asd h3
 have HTf := asd (HTe.out.doc HRe.out c3)
 have RR := asd (And.intro k3 (And.intro i3 j3))
 clear h3 k3 i3 j3 c3 HTe HRe ZAe
 refine ⟨_, rfl, ?_⟩
 refine hK.out _ _ ?_
 clear hK K
 refine norm_ (a' := ?_) ?_ ?_
 rotate_left
 ·show Act.put _ (some 28) _ = _
  simp only [Act.put, sB, i64_w, i32_w]
  rfl
 refine pure_ (i := 10) (N := (some 29)) (v := ?_) (a' := ?_) #[true, true, true, true, true, true, true, true, true, true, true, false] rfl rfl (any_of HT_.out (by kernel_rfl)) (fun _ _ _ h => h) (Or.inl ⟨by rfl, ?_⟩) ?_ ?_
 rotate_left
 ·intro w'
  go_simp
  with_reducible rfl
 rotate_left
 ·simp only [Act.put, sB, i64_w, i32_w]
  rfl
 refine pure_ (i := 11) (N := (some 6)) (v := ?_) (a' := ?_) #[true, true, true, true, true, true, true, true, true, true, true, true] rfl rfl (any_of HT_.out (by kernel_rfl)) (fun _ _ _ h => h) (Or.inl ⟨by rfl, ?_⟩) ?_ ?_
 rotate_left
 ·intro w'
  go_simp
  with_reducible rfl
 rotate_left
 ·simp only [Act.put, sB, i64_w, i32_w]
  rfl
 refine done_ (done_of HT_.out (by kernel_rfl)) ?_
 try go_wp2
 go_ret
 have hw : 1 ≤ wrk := (of_decide_eq_true HJ.out).2.1.1
 refine ⟨rfl, T2, R3, HTf.out, HRf.out, HP.out.step RL.out RR.out.1 (RR.out.2.1.trans HP.out.hi) RR.out.2.2 (fun i => ?_) (HP.out.dm RL.out) (fun i j hj hil => ?_)⟩
 ·unfold putJ
  rw [HP.out.js]
 ·unfold putJ at hj
  by_cases e : i = k
  ·rw [if_pos e] at hj
   obtain rfl := Option.some.inj hj
   exact ⟨by show (0 : Int) < wrk; omega, fun q => by rw [e]; exact HH.out.elim (fun q2 => by rw [q2] at q; cases q) (fun q2 => q2)⟩
  ·rw [if_neg e] at hj
   exact HP.out.job i j hj
end
end Go.Proofs.Ytjekfipaadbbbaa.Fn
namespace Go.Proofs.Ytjekfipaadbbbaa.Fn
open Go.RowKit Go.Proofs.YtjekfipaadbbbaaW.PrintWords Go.Proofs.YtjekfipaadbbbaaW.PrintLast Go.Proofs.YtjekfipaadbbbaaW.PrintMore
set_option linter.unusedVariables false
set_option linter.unusedSimpArgs false
def do20T : Bool × List (List Nat × List Nat) := (true, [([], []), ([], []), ([1], [1]), ([0, 2], [0, 2]), ([], []), ([], []), ([5], [5]), ([4, 6, 3], [4, 6]), ([3, 7, 7], [3, 7]), ([8, 8, 0, 1, 2, 3, 4, 5, 6, 7, 8], [8])])
def do20B : List Nat := [0, 0, 2, 7, 0, 0, 32, 127, 255, 511]
theorem do20_tab : rtab .any (opsOf Try.f48 20) = do20T := by kernel_rfl
theorem do20_bits : waitsOk do20T.2 do20B = true := by kernel_rfl
section
variable {w w0 : World} {base g r : Nat} {T : TD} {R : RD} {l : List S44}
set_option maxHeartbeats 32000000 in
set_option maxRecDepth 100000 in
theorem do_run2 (hT : TabOK w base g T) (hR : RTab w w0 r R) (hb0 : w0.heap.size ≤ base) (hP : PI l T R) (kk arr wrk : Int) (A : Option Addr) (c : Nat) (xs : List S134) (hC : Kd.C k134 w0 A xs.length xs) (hc : xs.length ≤ c) (h70 : xs.length ≤ 70) (tsk dn : Int) : Calls Try.prog 48 #[.pointer (some ⟨g, 0, none⟩), .pointer (some ⟨r, 0, none⟩), .agg #[.int .i64 2, .int .i64 kk, .int .i64 tsk, .int .i64 arr, .int .i64 wrk, .int .i64 dn, .slice A xs.length c]] w fun e w' => e = .returned (.bool true) ∧ DoPost w0 w' base g r l := by
 have hu65 := Try.underlying65
 have hu63 := Try.underlying63
 have hu76 := Try.underlying76
 have hu134 := Try.underlying134
 have hu90 := Try.underlying90
 have ZA := asd (heap_alloc_new w (.cells #[.int .i64 2, .int .i64 kk, .int .i64 tsk, .int .i64 arr, .int .i64 wrk, .int .i64 dn, .slice A xs.length c] 65))
 have HB := below_alloc (Below.refl w.heap.size w) (.cells #[.int .i64 2, .int .i64 kk, .int .i64 tsk, .int .i64 arr, .int .i64 wrk, .int .i64 dn, .slice A xs.length c] 65)
 have HT := asd (hT.below HB)
 have HR := asd (hR.below HB)
 have HP := asd hP
 have HB0 := asd hb0
 have SLT : Aside0 (¬ T.S g w.heap.size) := ⟨fun q => Nat.lt_irrefl _ (hT.lt _ q)⟩
 have SNR : Aside0 (w.heap.size ≠ r) := ⟨fun q => by have := blk_lt hR.blk; omega⟩
 have CX := asd (And.intro hC (And.intro hc h70))
 clear hT hR hP hb0 hC hc h70 HB
 have a0 := (blk_cell ZA.out 0).trans rfl
 have a1 := (blk_cell ZA.out 1).trans rfl
 by_cases hs : ∃ k0, R.is k0 = true
 ·obtain ⟨k0, hk0⟩ := hs
  have HK0 := asd hk0
  clear hk0
  go_enter Try.func48, Try.ntmps48
  go_wp2_with fail
  generalize w.alloc (.cells #[.int .i64 2, .int .i64 kk, .int .i64 tsk, .int .i64 arr, .int .i64 wrk, .int .i64 dn, .slice A xs.length c] 65) = wa at ZA HT HR ⊢
  generalize w.heap.size = s at ZA SLT SNR ⊢
  clear a0 a1
  go_wp2_with fail
  refine (rfirst_some HR.out HK0.out).mono ?_
  rintro e w1 ⟨⟨k, rfl, hle⟩, hb⟩
  have HT1 := asd (HT.out.below hb)
  have HR1 := asd (HR.out.below hb)
  have ZA1 := asd (blk_below ZA.out hb)
  have LE := asd hle
  clear hb hle
  obtain ⟨b, HBP, HIS⟩ : ∃ b, Aside0 (T.pt k = some b) ∧ Aside0 (R.is k = true ∧ R.jr k = T.jb k) := by
   have hk := LE.out.1
   have h1 : R.js k = some (R.jr k) := by unfold RD.js; rw [if_pos hk]
   rw [HP.out.js] at h1
   obtain ⟨_, _, b, hb⟩ := TD.js_some h1
   exact ⟨b, ⟨hb⟩, ⟨HP.out.is_some hb⟩⟩
  have HJS : Aside0 (T.js k = some (T.jb k)) := ⟨by unfold TD.js; rw [HBP.out]; rfl⟩
  have HKL : Aside0 (k < T.sl.length) := ⟨(TD.js_some HJS.out).1⟩
  have HRT : Aside0 (R.tk k = T.tk k) := ⟨HP.out.rtk (by rw [← HP.out.len]; exact HKL.out)⟩
  have HD : Aside0 ((T.jb k).dn < (T.jb k).wrk) := ⟨(HP.out.job k _ HJS.out).1⟩
  have a0 := (blk_cell ZA1.out 0).trans rfl
  have a1 := (blk_cell ZA1.out 1).trans rfl
  go_wp2_with fail
  refine (trun_calls HT1.out k b HKL.out HBP.out HD.out).mono ?_
  rintro e w2 ⟨rfl, T2, h2, r2, c2, s2⟩
  have HT2 := asd h2
  have RL := asd r2
  have HR2 := asd (HR1.out.other (wt := w1) HT1.out HB0.out c2)
  clear h2 r2 c2 s2 a0 a1
  have HB3 := asd (below_alloc (Below.refl w2.heap.size w2) (.cells #[.int .i64 (opJ (T.jb k)).f0, .int .i64 (opJ (T.jb k)).f1, .int .i64 (opJ (T.jb k)).f2] 76))
  have RC := asd (rrun_calls (HR2.out.below HB3.out) k HIS.out.1 (by rw [HIS.out.2]; exact HD.out))
  rw [HIS.out.2, HRT.out, HP.out.hi] at RC
  have B3 := asd (heap_alloc_new w2 (.cells #[.int .i64 (opJ (T.jb k)).f0, .int .i64 (opJ (T.jb k)).f1, .int .i64 (opJ (T.jb k)).f2] 76))
  generalize opJ (T.jb k) = o at RC HB3 B3 ⊢
  generalize outJ T.hi (T.tk k) (T.jb k) = u at RC ⊢
  unfold opV at RC ⊢
  go_wp2_with fail
  refine RC.out.mono ?_
  rintro e w4 ⟨rfl, R4, h4, k4, i4, j4, c4⟩
  have HR4 := asd (And.intro h4 (And.intro k4 (And.intro i4 j4)))
  have HT4 := asd ((HT2.out.below HB3.out).doc (HR2.out.below HB3.out) c4)
  have B4 := blk_chg B3.out c4 (fun e => by have := blk_lt HR2.out.blk; omega)
  clear h4 k4 i4 j4 c4
  have B5 := blk_alloc B4 (.cells #[.int .i64 o.f0, .int .i64 o.f1, .int .i64 o.f2] 134)
  have B6 := heap_alloc_new w4 (.cells #[.int .i64 o.f0, .int .i64 o.f1, .int .i64 o.f2] 134)
  have HB5 := asd (below_alloc (Below.refl w4.heap.size w4) (.cells #[.int .i64 o.f0, .int .i64 o.f1, .int .i64 o.f2] 134))
  clear B4
  go_upto_region 14 with fail
  generalize w4.alloc (.cells #[.int .i64 o.f0, .int .i64 o.f1, .int .i64 o.f2] 134) = w5 at B5 B6 HB5 ⊢
  have x0 := (blk_cell B5 0).trans rfl
  have x1 := (blk_cell B5 1).trans rfl
  have x2 := (blk_cell B5 2).trans rfl
  have z0 := (blk_cell B6 0).trans rfl
  have z1 := (blk_cell B6 1).trans rfl
  have z2 := (blk_cell B6 2).trans rfl
  clear B5 B6
  go_wp2
  go_ret
  have hb5 := HB5.out
  exact ⟨by first | rfl | simp, T2, R4, HT4.out.below hb5, HR4.out.1.below hb5, HP.out.step RL.out HR4.out.2.1 HR4.out.2.2.1 HR4.out.2.2.2 (HP.out.run HKL.out HBP.out) (HP.out.dm RL.out) (fun i j hj _ => HP.out.run_job HKL.out HBP.out HT1.out i j hj)⟩
 ·have HNA : Aside0 (∀ k, R.js k = none) := ⟨fun k => RD.js_none.2 (by cases e : R.is k with | false => rfl | true => exact absurd ⟨k, e⟩ hs)⟩
  have HNR : Aside0 (kk < 0 ∨ R.js kk.toNat = none) := ⟨.inr (HNA.out _)⟩
  have HNO : Aside0 (kk < 0 ∨ T.js kk.toNat = none) := ⟨.inr (by rw [← HP.out.js]; exact HNA.out _)⟩
  clear hs
  go_enter Try.func48, Try.ntmps48
  go_wp2_with fail
  generalize w.alloc (.cells #[.int .i64 2, .int .i64 kk, .int .i64 tsk, .int .i64 arr, .int .i64 wrk, .int .i64 dn, .slice A xs.length c] 65) = wa at ZA HT HR ⊢
  generalize w.heap.size = s at ZA SLT SNR ⊢
  clear a0 a1
  go_wp2_with fail
  refine (rfirst_none HR.out HNA.out).mono ?_
  rintro e w1 ⟨rfl, hb⟩
  have HT1 := asd (HT.out.below hb)
  have HR1 := asd (HR.out.below hb)
  have ZA1 := asd (blk_below ZA.out hb)
  clear hb
  have a0 := (blk_cell ZA1.out 0).trans rfl
  have a1 := (blk_cell ZA1.out 1).trans rfl
  go_wp2_with fail
  refine (trun_nobody HT1.out kk HNO.out).mono ?_
  rintro e w2 ⟨rfl, hb⟩
  have HT2 := asd (HT1.out.below hb)
  have HR2 := asd (HR1.out.below hb)
  clear hb a0 a1
  have HB3 := asd (below_alloc (Below.refl w2.heap.size w2) (.cells #[.int .i64 0, .int .i64 0, .int .i64 0] 76))
  have B3 := asd (heap_alloc_new w2 (.cells #[.int .i64 0, .int .i64 0, .int .i64 0] 76))
  go_wp2_with fail
  refine (rrun_nobody (HR2.out.below HB3.out) kk HNR.out).mono ?_
  rintro e w4 ⟨rfl, hb⟩
  have HR4 := asd ((HR2.out.below HB3.out).below hb)
  have HT4 := asd ((HT2.out.below HB3.out).below hb)
  have B4 := blk_below B3.out hb
  clear hb
  have B5 := blk_alloc B4 (.cells #[.int .i64 0, .int .i64 0, .int .i64 0] 134)
  have B6 := heap_alloc_new w4 (.cells #[.int .i64 0, .int .i64 0, .int .i64 0] 134)
  have HB5 := asd (below_alloc (Below.refl w4.heap.size w4) (.cells #[.int .i64 0, .int .i64 0, .int .i64 0] 134))
  clear B4
  go_upto_region 14 with fail
  generalize w4.alloc (.cells #[.int .i64 0, .int .i64 0, .int .i64 0] 134) = w5 at B5 B6 HB5 ⊢
  have x0 := (blk_cell B5 0).trans rfl
  have x1 := (blk_cell B5 1).trans rfl
  have x2 := (blk_cell B5 2).trans rfl
  have z0 := (blk_cell B6 0).trans rfl
  have z1 := (blk_cell B6 1).trans rfl
  have z2 := (blk_cell B6 2).trans rfl
  clear B5 B6
  go_wp2
  go_ret
  have hb5 := HB5.out
  exact ⟨by first | rfl | simp, T, R, HT4.out.below hb5, HR4.out.below hb5, HP.out⟩
set_option maxHeartbeats 32000000 in
set_option maxRecDepth 100000 in
theorem do_run3 (hT : TabOK w base g T) (hR : RTab w w0 r R) (hb0 : w0.heap.size ≤ base) (hP : PI l T R) (kk arr wrk : Int) (A : Option Addr) (c : Nat) (xs : List S134) (hC : Kd.C k134 w0 A xs.length xs) (hc : xs.length ≤ c) (h70 : xs.length ≤ 70) (tsk dn : Int) : Calls Try.prog 48 #[.pointer (some ⟨g, 0, none⟩), .pointer (some ⟨r, 0, none⟩), .agg #[.int .i64 3, .int .i64 kk, .int .i64 tsk, .int .i64 arr, .int .i64 wrk, .int .i64 dn, .slice A xs.length c]] w fun e w' => e = .returned (.bool true) ∧ DoPost w0 w' base g r l := by
 have hu65 := Try.underlying65
 have hu63 := Try.underlying63
 have hu76 := Try.underlying76
 have hu134 := Try.underlying134
 have hu90 := Try.underlying90
 have ZA := asd (heap_alloc_new w (.cells #[.int .i64 3, .int .i64 kk, .int .i64 tsk, .int .i64 arr, .int .i64 wrk, .int .i64 dn, .slice A xs.length c] 65))
 have HB := below_alloc (Below.refl w.heap.size w) (.cells #[.int .i64 3, .int .i64 kk, .int .i64 tsk, .int .i64 arr, .int .i64 wrk, .int .i64 dn, .slice A xs.length c] 65)
 have HT := asd (hT.below HB)
 have HR := asd (hR.below HB)
 have HP := asd hP
 have HB0 := asd hb0
 have SLT : Aside0 (¬ T.S g w.heap.size) := ⟨fun q => Nat.lt_irrefl _ (hT.lt _ q)⟩
 have SNR : Aside0 (w.heap.size ≠ r) := ⟨fun q => by have := blk_lt hR.blk; omega⟩
 have CX := asd (And.intro hC (And.intro hc h70))
 clear hT hR hP hb0 hC hc h70 HB
 have a0 := (blk_cell ZA.out 0).trans rfl
 have a1 := (blk_cell ZA.out 1).trans rfl
 by_cases hs : ∃ k0, R.is k0 = true
 ·obtain ⟨k0, hk0⟩ := hs
  have HK0 := asd hk0
  clear hk0
  go_enter Try.func48, Try.ntmps48
  go_wp2_with fail
  generalize w.alloc (.cells #[.int .i64 3, .int .i64 kk, .int .i64 tsk, .int .i64 arr, .int .i64 wrk, .int .i64 dn, .slice A xs.length c] 65) = wa at ZA HT HR ⊢
  generalize w.heap.size = s at ZA SLT SNR ⊢
  clear a0 a1
  go_wp2_with fail
  refine (rfirst_some HR.out HK0.out).mono ?_
  rintro e w1 ⟨⟨k, rfl, hle⟩, hb⟩
  have HT1 := asd (HT.out.below hb)
  have HR1 := asd (HR.out.below hb)
  have ZA1 := asd (blk_below ZA.out hb)
  have LE := asd hle
  clear hb hle
  obtain ⟨b, HBP, HIS⟩ : ∃ b, Aside0 (T.pt k = some b) ∧ Aside0 (R.is k = true ∧ R.jr k = T.jb k) := by
   have hk := LE.out.1
   have h1 : R.js k = some (R.jr k) := by unfold RD.js; rw [if_pos hk]
   rw [HP.out.js] at h1
   obtain ⟨_, _, b, hb⟩ := TD.js_some h1
   exact ⟨b, ⟨hb⟩, ⟨HP.out.is_some hb⟩⟩
  have HJS : Aside0 (T.js k = some (T.jb k)) := ⟨by unfold TD.js; rw [HBP.out]; rfl⟩
  have HKL : Aside0 (k < T.sl.length) := ⟨(TD.js_some HJS.out).1⟩
  have HRT : Aside0 (R.tk k = T.tk k) := ⟨HP.out.rtk (by rw [← HP.out.len]; exact HKL.out)⟩
  have HD : Aside0 ((T.jb k).dn < (T.jb k).wrk) := ⟨(HP.out.job k _ HJS.out).1⟩
  have a0 := (blk_cell ZA1.out 0).trans rfl
  have a1 := (blk_cell ZA1.out 1).trans rfl
  go_wp2_with fail
  refine (trun_calls HT1.out k b HKL.out HBP.out HD.out).mono ?_
  rintro e w2 ⟨rfl, T2, h2, r2, c2, s2⟩
  have HT2 := asd h2
  have RL := asd r2
  have HR2 := asd (HR1.out.other (wt := w1) HT1.out HB0.out c2)
  clear h2 r2 c2 s2 a0 a1
  have HB3 := asd (below_alloc (Below.refl w2.heap.size w2) (.cells #[.int .i64 (opJ (T.jb k)).f0, .int .i64 (opJ (T.jb k)).f1, .int .i64 (opJ (T.jb k)).f2] 76))
  have RC := asd (rrun_calls (HR2.out.below HB3.out) k HIS.out.1 (by rw [HIS.out.2]; exact HD.out))
  rw [HIS.out.2, HRT.out, HP.out.hi] at RC
  have B3 := asd (heap_alloc_new w2 (.cells #[.int .i64 (opJ (T.jb k)).f0, .int .i64 (opJ (T.jb k)).f1, .int .i64 (opJ (T.jb k)).f2] 76))
  generalize opJ (T.jb k) = o at RC HB3 B3 ⊢
  generalize outJ T.hi (T.tk k) (T.jb k) = u at RC ⊢
  unfold opV at RC ⊢
  go_wp2_with fail
  refine RC.out.mono ?_
  rintro e w4 ⟨rfl, R4, h4, k4, i4, j4, c4⟩
  have HR4 := asd (And.intro h4 (And.intro k4 (And.intro i4 j4)))
  have HT4 := asd ((HT2.out.below HB3.out).doc (HR2.out.below HB3.out) c4)
  have B4 := blk_chg B3.out c4 (fun e => by have := blk_lt HR2.out.blk; omega)
  clear h4 k4 i4 j4 c4
  have B5 := blk_alloc B4 (.cells #[.int .i64 o.f0, .int .i64 o.f1, .int .i64 o.f2] 134)
  have B6 := heap_alloc_new w4 (.cells #[.int .i64 o.f0, .int .i64 o.f1, .int .i64 o.f2] 134)
  have HB5 := asd (below_alloc (Below.refl w4.heap.size w4) (.cells #[.int .i64 o.f0, .int .i64 o.f1, .int .i64 o.f2] 134))
  clear B4
  go_upto_region 14 with fail
  generalize w4.alloc (.cells #[.int .i64 o.f0, .int .i64 o.f1, .int .i64 o.f2] 134) = w5 at B5 B6 HB5 ⊢
  have x0 := (blk_cell B5 0).trans rfl
  have x1 := (blk_cell B5 1).trans rfl
  have x2 := (blk_cell B5 2).trans rfl
  have z0 := (blk_cell B6 0).trans rfl
  have z1 := (blk_cell B6 1).trans rfl
  have z2 := (blk_cell B6 2).trans rfl
  clear B5 B6
  go_wp2
  go_ret
  have hb5 := HB5.out
  exact ⟨by first | rfl | simp, T2, R4, HT4.out.below hb5, HR4.out.1.below hb5, HP.out.step RL.out HR4.out.2.1 HR4.out.2.2.1 HR4.out.2.2.2 (HP.out.run HKL.out HBP.out) (HP.out.dm RL.out) (fun i j hj _ => HP.out.run_job HKL.out HBP.out HT1.out i j hj)⟩
 ·have HNA : Aside0 (∀ k, R.js k = none) := ⟨fun k => RD.js_none.2 (by cases e : R.is k with | false => rfl | true => exact absurd ⟨k, e⟩ hs)⟩
  have HNR : Aside0 (kk < 0 ∨ R.js kk.toNat = none) := ⟨.inr (HNA.out _)⟩
  have HNO : Aside0 (kk < 0 ∨ T.js kk.toNat = none) := ⟨.inr (by rw [← HP.out.js]; exact HNA.out _)⟩
  clear hs
  go_enter Try.func48, Try.ntmps48
  go_wp2_with fail
  generalize w.alloc (.cells #[.int .i64 3, .int .i64 kk, .int .i64 tsk, .int .i64 arr, .int .i64 wrk, .int .i64 dn, .slice A xs.length c] 65) = wa at ZA HT HR ⊢
  generalize w.heap.size = s at ZA SLT SNR ⊢
  clear a0 a1
  go_wp2_with fail
  refine (rfirst_none HR.out HNA.out).mono ?_
  rintro e w1 ⟨rfl, hb⟩
  have HT1 := asd (HT.out.below hb)
  have HR1 := asd (HR.out.below hb)
  have ZA1 := asd (blk_below ZA.out hb)
  clear hb
  have a0 := (blk_cell ZA1.out 0).trans rfl
  have a1 := (blk_cell ZA1.out 1).trans rfl
  go_wp2_with fail
  refine (trun_nobody HT1.out kk HNO.out).mono ?_
  rintro e w2 ⟨rfl, hb⟩
  have HT2 := asd (HT1.out.below hb)
  have HR2 := asd (HR1.out.below hb)
  clear hb a0 a1
  have HB3 := asd (below_alloc (Below.refl w2.heap.size w2) (.cells #[.int .i64 0, .int .i64 0, .int .i64 0] 76))
  have B3 := asd (heap_alloc_new w2 (.cells #[.int .i64 0, .int .i64 0, .int .i64 0] 76))
  go_wp2_with fail
  refine (rrun_nobody (HR2.out.below HB3.out) kk HNR.out).mono ?_
  rintro e w4 ⟨rfl, hb⟩
  have HR4 := asd ((HR2.out.below HB3.out).below hb)
  have HT4 := asd ((HT2.out.below HB3.out).below hb)
  have B4 := blk_below B3.out hb
  clear hb
  have B5 := blk_alloc B4 (.cells #[.int .i64 0, .int .i64 0, .int .i64 0] 134)
  have B6 := heap_alloc_new w4 (.cells #[.int .i64 0, .int .i64 0, .int .i64 0] 134)
  have HB5 := asd (below_alloc (Below.refl w4.heap.size w4) (.cells #[.int .i64 0, .int .i64 0, .int .i64 0] 134))
  clear B4
  go_upto_region 14 with fail
  generalize w4.alloc (.cells #[.int .i64 0, .int .i64 0, .int .i64 0] 134) = w5 at B5 B6 HB5 ⊢
  have x0 := (blk_cell B5 0).trans rfl
  have x1 := (blk_cell B5 1).trans rfl
  have x2 := (blk_cell B5 2).trans rfl
  have z0 := (blk_cell B6 0).trans rfl
  have z1 := (blk_cell B6 1).trans rfl
  have z2 := (blk_cell B6 2).trans rfl
  clear B5 B6
  go_wp2
  go_ret
  have hb5 := HB5.out
  exact ⟨by first | rfl | simp, T, R, HT4.out.below hb5, HR4.out.below hb5, HP.out⟩
set_option maxHeartbeats 32000000 in
set_option maxRecDepth 100000 in
theorem do_run4 (hT : TabOK w base g T) (hR : RTab w w0 r R) (hb0 : w0.heap.size ≤ base) (hP : PI l T R) (kk arr wrk : Int) (A : Option Addr) (c : Nat) (xs : List S134) (hC : Kd.C k134 w0 A xs.length xs) (hc : xs.length ≤ c) (h70 : xs.length ≤ 70) (tsk dn : Int) : Calls Try.prog 48 #[.pointer (some ⟨g, 0, none⟩), .pointer (some ⟨r, 0, none⟩), .agg #[.int .i64 4, .int .i64 kk, .int .i64 tsk, .int .i64 arr, .int .i64 wrk, .int .i64 dn, .slice A xs.length c]] w fun e w' => e = .returned (.bool true) ∧ DoPost w0 w' base g r l := by
 have hu65 := Try.underlying65
 have hu63 := Try.underlying63
 have hu76 := Try.underlying76
 have hu134 := Try.underlying134
 have hu90 := Try.underlying90
 have ZA := asd (heap_alloc_new w (.cells #[.int .i64 4, .int .i64 kk, .int .i64 tsk, .int .i64 arr, .int .i64 wrk, .int .i64 dn, .slice A xs.length c] 65))
 have HB := below_alloc (Below.refl w.heap.size w) (.cells #[.int .i64 4, .int .i64 kk, .int .i64 tsk, .int .i64 arr, .int .i64 wrk, .int .i64 dn, .slice A xs.length c] 65)
 have HT := asd (hT.below HB)
 have HR := asd (hR.below HB)
 have HP := asd hP
 have HB0 := asd hb0
 have SLT : Aside0 (¬ T.S g w.heap.size) := ⟨fun q => Nat.lt_irrefl _ (hT.lt _ q)⟩
 have SNR : Aside0 (w.heap.size ≠ r) := ⟨fun q => by have := blk_lt hR.blk; omega⟩
 have CX := asd (And.intro hC (And.intro hc h70))
 clear hT hR hP hb0 hC hc h70 HB
 have a0 := (blk_cell ZA.out 0).trans rfl
 have a1 := (blk_cell ZA.out 1).trans rfl
 by_cases hs : ∃ k0, R.is k0 = true
 ·obtain ⟨k0, hk0⟩ := hs
  have HK0 := asd hk0
  clear hk0
  go_enter Try.func48, Try.ntmps48
  go_wp2_with fail
  generalize w.alloc (.cells #[.int .i64 4, .int .i64 kk, .int .i64 tsk, .int .i64 arr, .int .i64 wrk, .int .i64 dn, .slice A xs.length c] 65) = wa at ZA HT HR ⊢
  generalize w.heap.size = s at ZA SLT SNR ⊢
  clear a0 a1
  go_wp2_with fail
  refine (rfirst_some HR.out HK0.out).mono ?_
  rintro e w1 ⟨⟨k, rfl, hle⟩, hb⟩
  have HT1 := asd (HT.out.below hb)
  have HR1 := asd (HR.out.below hb)
  have ZA1 := asd (blk_below ZA.out hb)
  have LE := asd hle
  clear hb hle
  obtain ⟨b, HBP, HIS⟩ : ∃ b, Aside0 (T.pt k = some b) ∧ Aside0 (R.is k = true ∧ R.jr k = T.jb k) := by
   have hk := LE.out.1
   have h1 : R.js k = some (R.jr k) := by unfold RD.js; rw [if_pos hk]
   rw [HP.out.js] at h1
   obtain ⟨_, _, b, hb⟩ := TD.js_some h1
   exact ⟨b, ⟨hb⟩, ⟨HP.out.is_some hb⟩⟩
  have HJS : Aside0 (T.js k = some (T.jb k)) := ⟨by unfold TD.js; rw [HBP.out]; rfl⟩
  have HKL : Aside0 (k < T.sl.length) := ⟨(TD.js_some HJS.out).1⟩
  have HRT : Aside0 (R.tk k = T.tk k) := ⟨HP.out.rtk (by rw [← HP.out.len]; exact HKL.out)⟩
  have HD : Aside0 ((T.jb k).dn < (T.jb k).wrk) := ⟨(HP.out.job k _ HJS.out).1⟩
  have a0 := (blk_cell ZA1.out 0).trans rfl
  have a1 := (blk_cell ZA1.out 1).trans rfl
  go_wp2_with fail
  refine (trun_calls HT1.out k b HKL.out HBP.out HD.out).mono ?_
  rintro e w2 ⟨rfl, T2, h2, r2, c2, s2⟩
  have HT2 := asd h2
  have RL := asd r2
  have HR2 := asd (HR1.out.other (wt := w1) HT1.out HB0.out c2)
  clear h2 r2 c2 s2 a0 a1
  have HB3 := asd (below_alloc (Below.refl w2.heap.size w2) (.cells #[.int .i64 (opJ (T.jb k)).f0, .int .i64 (opJ (T.jb k)).f1, .int .i64 (opJ (T.jb k)).f2] 76))
  have RC := asd (rrun_calls (HR2.out.below HB3.out) k HIS.out.1 (by rw [HIS.out.2]; exact HD.out))
  rw [HIS.out.2, HRT.out, HP.out.hi] at RC
  have B3 := asd (heap_alloc_new w2 (.cells #[.int .i64 (opJ (T.jb k)).f0, .int .i64 (opJ (T.jb k)).f1, .int .i64 (opJ (T.jb k)).f2] 76))
  generalize opJ (T.jb k) = o at RC HB3 B3 ⊢
  generalize outJ T.hi (T.tk k) (T.jb k) = u at RC ⊢
  unfold opV at RC ⊢
  go_wp2_with fail
  refine RC.out.mono ?_
  rintro e w4 ⟨rfl, R4, h4, k4, i4, j4, c4⟩
  have HR4 := asd (And.intro h4 (And.intro k4 (And.intro i4 j4)))
  have HT4 := asd ((HT2.out.below HB3.out).doc (HR2.out.below HB3.out) c4)
  have B4 := blk_chg B3.out c4 (fun e => by have := blk_lt HR2.out.blk; omega)
  clear h4 k4 i4 j4 c4
  have B5 := blk_alloc B4 (.cells #[.int .i64 o.f0, .int .i64 o.f1, .int .i64 o.f2] 134)
  have B6 := heap_alloc_new w4 (.cells #[.int .i64 o.f0, .int .i64 o.f1, .int .i64 o.f2] 134)
  have HB5 := asd (below_alloc (Below.refl w4.heap.size w4) (.cells #[.int .i64 o.f0, .int .i64 o.f1, .int .i64 o.f2] 134))
  clear B4
  go_upto_region 14 with fail
  generalize w4.alloc (.cells #[.int .i64 o.f0, .int .i64 o.f1, .int .i64 o.f2] 134) = w5 at B5 B6 HB5 ⊢
  have x0 := (blk_cell B5 0).trans rfl
  have x1 := (blk_cell B5 1).trans rfl
  have x2 := (blk_cell B5 2).trans rfl
  have z0 := (blk_cell B6 0).trans rfl
  have z1 := (blk_cell B6 1).trans rfl
  have z2 := (blk_cell B6 2).trans rfl
  clear B5 B6
  go_wp2
  go_ret
  have hb5 := HB5.out
  exact ⟨by first | rfl | simp, T2, R4, HT4.out.below hb5, HR4.out.1.below hb5, HP.out.step RL.out HR4.out.2.1 HR4.out.2.2.1 HR4.out.2.2.2 (HP.out.run HKL.out HBP.out) (HP.out.dm RL.out) (fun i j hj _ => HP.out.run_job HKL.out HBP.out HT1.out i j hj)⟩
 ·have HNA : Aside0 (∀ k, R.js k = none) := ⟨fun k => RD.js_none.2 (by cases e : R.is k with | false => rfl | true => exact absurd ⟨k, e⟩ hs)⟩
  have HNR : Aside0 (kk < 0 ∨ R.js kk.toNat = none) := ⟨.inr (HNA.out _)⟩
  have HNO : Aside0 (kk < 0 ∨ T.js kk.toNat = none) := ⟨.inr (by rw [← HP.out.js]; exact HNA.out _)⟩
  clear hs
  go_enter Try.func48, Try.ntmps48
  go_wp2_with fail
  generalize w.alloc (.cells #[.int .i64 4, .int .i64 kk, .int .i64 tsk, .int .i64 arr, .int .i64 wrk, .int .i64 dn, .slice A xs.length c] 65) = wa at ZA HT HR ⊢
  generalize w.heap.size = s at ZA SLT SNR ⊢
  clear a0 a1
  go_wp2_with fail
  refine (rfirst_none HR.out HNA.out).mono ?_
  rintro e w1 ⟨rfl, hb⟩
  have HT1 := asd (HT.out.below hb)
  have HR1 := asd (HR.out.below hb)
  have ZA1 := asd (blk_below ZA.out hb)
  clear hb
  have a0 := (blk_cell ZA1.out 0).trans rfl
  have a1 := (blk_cell ZA1.out 1).trans rfl
  go_wp2_with fail
  refine (trun_nobody HT1.out kk HNO.out).mono ?_
  rintro e w2 ⟨rfl, hb⟩
  have HT2 := asd (HT1.out.below hb)
  have HR2 := asd (HR1.out.below hb)
  clear hb a0 a1
  have HB3 := asd (below_alloc (Below.refl w2.heap.size w2) (.cells #[.int .i64 0, .int .i64 0, .int .i64 0] 76))
  have B3 := asd (heap_alloc_new w2 (.cells #[.int .i64 0, .int .i64 0, .int .i64 0] 76))
  go_wp2_with fail
  refine (rrun_nobody (HR2.out.below HB3.out) kk HNR.out).mono ?_
  rintro e w4 ⟨rfl, hb⟩
  have HR4 := asd ((HR2.out.below HB3.out).below hb)
  have HT4 := asd ((HT2.out.below HB3.out).below hb)
  have B4 := blk_below B3.out hb
  clear hb
  have B5 := blk_alloc B4 (.cells #[.int .i64 0, .int .i64 0, .int .i64 0] 134)
  have B6 := heap_alloc_new w4 (.cells #[.int .i64 0, .int .i64 0, .int .i64 0] 134)
  have HB5 := asd (below_alloc (Below.refl w4.heap.size w4) (.cells #[.int .i64 0, .int .i64 0, .int .i64 0] 134))
  clear B4
  go_upto_region 14 with fail
  generalize w4.alloc (.cells #[.int .i64 0, .int .i64 0, .int .i64 0] 134) = w5 at B5 B6 HB5 ⊢
  have x0 := (blk_cell B5 0).trans rfl
  have x1 := (blk_cell B5 1).trans rfl
  have x2 := (blk_cell B5 2).trans rfl
  have z0 := (blk_cell B6 0).trans rfl
  have z1 := (blk_cell B6 1).trans rfl
  have z2 := (blk_cell B6 2).trans rfl
  clear B5 B6
  go_wp2
  go_ret
  have hb5 := HB5.out
  exact ⟨by first | rfl | simp, T, R, HT4.out.below hb5, HR4.out.below hb5, HP.out⟩
set_option maxHeartbeats 32000000 in
set_option maxRecDepth 100000 in
theorem do_run5 (hT : TabOK w base g T) (hR : RTab w w0 r R) (hb0 : w0.heap.size ≤ base) (hP : PI l T R) (kk arr wrk : Int) (A : Option Addr) (c : Nat) (xs : List S134) (hC : Kd.C k134 w0 A xs.length xs) (hc : xs.length ≤ c) (h70 : xs.length ≤ 70) (tsk dn : Int) : Calls Try.prog 48 #[.pointer (some ⟨g, 0, none⟩), .pointer (some ⟨r, 0, none⟩), .agg #[.int .i64 5, .int .i64 kk, .int .i64 tsk, .int .i64 arr, .int .i64 wrk, .int .i64 dn, .slice A xs.length c]] w fun e w' => e = .returned (.bool true) ∧ DoPost w0 w' base g r l := by
 have hu65 := Try.underlying65
 have hu63 := Try.underlying63
 have hu76 := Try.underlying76
 have hu134 := Try.underlying134
 have hu90 := Try.underlying90
 have ZA := asd (heap_alloc_new w (.cells #[.int .i64 5, .int .i64 kk, .int .i64 tsk, .int .i64 arr, .int .i64 wrk, .int .i64 dn, .slice A xs.length c] 65))
 have HB := below_alloc (Below.refl w.heap.size w) (.cells #[.int .i64 5, .int .i64 kk, .int .i64 tsk, .int .i64 arr, .int .i64 wrk, .int .i64 dn, .slice A xs.length c] 65)
 have HT := asd (hT.below HB)
 have HR := asd (hR.below HB)
 have HP := asd hP
 have HB0 := asd hb0
 have SLT : Aside0 (¬ T.S g w.heap.size) := ⟨fun q => Nat.lt_irrefl _ (hT.lt _ q)⟩
 have SNR : Aside0 (w.heap.size ≠ r) := ⟨fun q => by have := blk_lt hR.blk; omega⟩
 have CX := asd (And.intro hC (And.intro hc h70))
 clear hT hR hP hb0 hC hc h70 HB
 have a0 := (blk_cell ZA.out 0).trans rfl
 have a1 := (blk_cell ZA.out 1).trans rfl
 by_cases hs : ∃ k0, R.is k0 = true
 ·obtain ⟨k0, hk0⟩ := hs
  have HK0 := asd hk0
  clear hk0
  by_cases hkk : 0 ≤ kk ∧ R.is kk.toNat = true
  ·obtain ⟨hk0, hki⟩ := hkk
   obtain ⟨k, rfl⟩ : ∃ k : Nat, kk = k := ⟨kk.toNat, by omega⟩
   rw [Int.toNat_natCast] at hki
   have HKI := asd hki
   clear hki hk0
   obtain ⟨b, HBP, HIS⟩ : ∃ b, Aside0 (T.pt k = some b) ∧ Aside0 (R.is k = true ∧ R.jr k = T.jb k) := by
    have hk := HKI.out
    have h1 : R.js k = some (R.jr k) := by unfold RD.js; rw [if_pos hk]
    rw [HP.out.js] at h1
    obtain ⟨_, _, b, hb⟩ := TD.js_some h1
    exact ⟨b, ⟨hb⟩, ⟨HP.out.is_some hb⟩⟩
   have HJS : Aside0 (T.js k = some (T.jb k)) := ⟨by unfold TD.js; rw [HBP.out]; rfl⟩
   have HKL : Aside0 (k < T.sl.length) := ⟨(TD.js_some HJS.out).1⟩
   have HRT : Aside0 (R.tk k = T.tk k) := ⟨HP.out.rtk (by rw [← HP.out.len]; exact HKL.out)⟩
   have HD : Aside0 ((T.jb k).dn < (T.jb k).wrk) := ⟨(HP.out.job k _ HJS.out).1⟩
   go_enter Try.func48, Try.ntmps48
   go_wp2_with fail
   generalize w.alloc (.cells #[.int .i64 5, .int .i64 (k : Int), .int .i64 tsk, .int .i64 arr, .int .i64 wrk, .int .i64 dn, .slice A xs.length c] 65) = wa at ZA HT HR ⊢
   generalize w.heap.size = s at ZA SLT SNR ⊢
   clear a0 a1
   go_wp2_with fail
   refine (rfirst_some HR.out HK0.out).mono ?_
   rintro e w1 ⟨⟨k1, rfl, hle⟩, hb⟩
   have HT1 := asd (HT.out.below hb)
   have HR1 := asd (HR.out.below hb)
   have ZA1 := asd (blk_below ZA.out hb)
   have LE := asd hle
   clear hb hle
   have a0 := (blk_cell ZA1.out 0).trans rfl
   have a1 := (blk_cell ZA1.out 1).trans rfl
   go_wp2_with fail
   refine (trun_calls HT1.out k b HKL.out HBP.out HD.out).mono ?_
   rintro e w2 ⟨rfl, T2, h2, r2, c2, s2⟩
   have HT2 := asd h2
   have RL := asd r2
   have HR2 := asd (HR1.out.other (wt := w1) HT1.out HB0.out c2)
   clear h2 r2 c2 s2 a0 a1
   have HB3 := asd (below_alloc (Below.refl w2.heap.size w2) (.cells #[.int .i64 (opJ (T.jb k)).f0, .int .i64 (opJ (T.jb k)).f1, .int .i64 (opJ (T.jb k)).f2] 76))
   have RC := asd (rrun_calls (HR2.out.below HB3.out) k HIS.out.1 (by rw [HIS.out.2]; exact HD.out))
   rw [HIS.out.2, HRT.out, HP.out.hi] at RC
   have B3 := asd (heap_alloc_new w2 (.cells #[.int .i64 (opJ (T.jb k)).f0, .int .i64 (opJ (T.jb k)).f1, .int .i64 (opJ (T.jb k)).f2] 76))
   generalize opJ (T.jb k) = o at RC HB3 B3 ⊢
   generalize outJ T.hi (T.tk k) (T.jb k) = u at RC ⊢
   unfold opV at RC ⊢
   go_wp2_with fail
   refine RC.out.mono ?_
   rintro e w4 ⟨rfl, R4, h4, k4, i4, j4, c4⟩
   have HR4 := asd (And.intro h4 (And.intro k4 (And.intro i4 j4)))
   have HT4 := asd ((HT2.out.below HB3.out).doc (HR2.out.below HB3.out) c4)
   have B4 := blk_chg B3.out c4 (fun e => by have := blk_lt HR2.out.blk; omega)
   clear h4 k4 i4 j4 c4
   have B5 := blk_alloc B4 (.cells #[.int .i64 o.f0, .int .i64 o.f1, .int .i64 o.f2] 134)
   have B6 := heap_alloc_new w4 (.cells #[.int .i64 o.f0, .int .i64 o.f1, .int .i64 o.f2] 134)
   have HB5 := asd (below_alloc (Below.refl w4.heap.size w4) (.cells #[.int .i64 o.f0, .int .i64 o.f1, .int .i64 o.f2] 134))
   clear B4
   go_upto_region 14 with fail
   generalize w4.alloc (.cells #[.int .i64 o.f0, .int .i64 o.f1, .int .i64 o.f2] 134) = w5 at B5 B6 HB5 ⊢
   have x0 := (blk_cell B5 0).trans rfl
   have x1 := (blk_cell B5 1).trans rfl
   have x2 := (blk_cell B5 2).trans rfl
   have z0 := (blk_cell B6 0).trans rfl
   have z1 := (blk_cell B6 1).trans rfl
   have z2 := (blk_cell B6 2).trans rfl
   clear B5 B6
   go_wp2
   go_ret
   have hb5 := HB5.out
   exact ⟨by first | rfl | simp, T2, R4, HT4.out.below hb5, HR4.out.1.below hb5, HP.out.step RL.out HR4.out.2.1 HR4.out.2.2.1 HR4.out.2.2.2 (HP.out.run HKL.out HBP.out) (HP.out.dm RL.out) (fun i j hj _ => HP.out.run_job HKL.out HBP.out HT1.out i j hj)⟩
  ·have HNR : Aside0 (kk < 0 ∨ R.js kk.toNat = none) := ⟨by
    by_cases q : kk < 0
    ·exact .inl q
    ·exact .inr (RD.js_none.2 (by cases e : R.is kk.toNat with | false => rfl | true => exact absurd ⟨by omega, e⟩ hkk))⟩
   have HNO : Aside0 (kk < 0 ∨ T.js kk.toNat = none) := ⟨HNR.out.imp_right (fun q => by rw [← HP.out.js]; exact q)⟩
   clear hkk
   go_enter Try.func48, Try.ntmps48
   go_wp2_with fail
   generalize w.alloc (.cells #[.int .i64 5, .int .i64 kk, .int .i64 tsk, .int .i64 arr, .int .i64 wrk, .int .i64 dn, .slice A xs.length c] 65) = wa at ZA HT HR ⊢
   generalize w.heap.size = s at ZA SLT SNR ⊢
   clear a0 a1
   go_wp2_with fail
   refine (rfirst_some HR.out HK0.out).mono ?_
   rintro e w1 ⟨⟨k1, rfl, hle⟩, hb⟩
   have HT1 := asd (HT.out.below hb)
   have HR1 := asd (HR.out.below hb)
   have ZA1 := asd (blk_below ZA.out hb)
   have LE := asd hle
   clear hb hle
   have a0 := (blk_cell ZA1.out 0).trans rfl
   have a1 := (blk_cell ZA1.out 1).trans rfl
   go_wp2_with fail
   refine (trun_nobody HT1.out kk HNO.out).mono ?_
   rintro e w2 ⟨rfl, hb⟩
   have HT2 := asd (HT1.out.below hb)
   have HR2 := asd (HR1.out.below hb)
   clear hb a0 a1
   have HB3 := asd (below_alloc (Below.refl w2.heap.size w2) (.cells #[.int .i64 0, .int .i64 0, .int .i64 0] 76))
   have B3 := asd (heap_alloc_new w2 (.cells #[.int .i64 0, .int .i64 0, .int .i64 0] 76))
   go_wp2_with fail
   refine (rrun_nobody (HR2.out.below HB3.out) kk HNR.out).mono ?_
   rintro e w4 ⟨rfl, hb⟩
   have HR4 := asd ((HR2.out.below HB3.out).below hb)
   have HT4 := asd ((HT2.out.below HB3.out).below hb)
   have B4 := blk_below B3.out hb
   clear hb
   have B5 := blk_alloc B4 (.cells #[.int .i64 0, .int .i64 0, .int .i64 0] 134)
   have B6 := heap_alloc_new w4 (.cells #[.int .i64 0, .int .i64 0, .int .i64 0] 134)
   have HB5 := asd (below_alloc (Below.refl w4.heap.size w4) (.cells #[.int .i64 0, .int .i64 0, .int .i64 0] 134))
   clear B4
   go_upto_region 14 with fail
   generalize w4.alloc (.cells #[.int .i64 0, .int .i64 0, .int .i64 0] 134) = w5 at B5 B6 HB5 ⊢
   have x0 := (blk_cell B5 0).trans rfl
   have x1 := (blk_cell B5 1).trans rfl
   have x2 := (blk_cell B5 2).trans rfl
   have z0 := (blk_cell B6 0).trans rfl
   have z1 := (blk_cell B6 1).trans rfl
   have z2 := (blk_cell B6 2).trans rfl
   clear B5 B6
   go_wp2
   go_ret
   have hb5 := HB5.out
   exact ⟨by first | rfl | simp, T, R, HT4.out.below hb5, HR4.out.below hb5, HP.out⟩
 ·have HNA : Aside0 (∀ k, R.js k = none) := ⟨fun k => RD.js_none.2 (by cases e : R.is k with | false => rfl | true => exact absurd ⟨k, e⟩ hs)⟩
  have HNR : Aside0 (kk < 0 ∨ R.js kk.toNat = none) := ⟨.inr (HNA.out _)⟩
  have HNO : Aside0 (kk < 0 ∨ T.js kk.toNat = none) := ⟨.inr (by rw [← HP.out.js]; exact HNA.out _)⟩
  clear hs
  go_enter Try.func48, Try.ntmps48
  go_wp2_with fail
  generalize w.alloc (.cells #[.int .i64 5, .int .i64 kk, .int .i64 tsk, .int .i64 arr, .int .i64 wrk, .int .i64 dn, .slice A xs.length c] 65) = wa at ZA HT HR ⊢
  generalize w.heap.size = s at ZA SLT SNR ⊢
  clear a0 a1
  go_wp2_with fail
  refine (rfirst_none HR.out HNA.out).mono ?_
  rintro e w1 ⟨rfl, hb⟩
  have HT1 := asd (HT.out.below hb)
  have HR1 := asd (HR.out.below hb)
  have ZA1 := asd (blk_below ZA.out hb)
  clear hb
  have a0 := (blk_cell ZA1.out 0).trans rfl
  have a1 := (blk_cell ZA1.out 1).trans rfl
  go_wp2_with fail
  refine (trun_nobody HT1.out kk HNO.out).mono ?_
  rintro e w2 ⟨rfl, hb⟩
  have HT2 := asd (HT1.out.below hb)
  have HR2 := asd (HR1.out.below hb)
  clear hb a0 a1
  have HB3 := asd (below_alloc (Below.refl w2.heap.size w2) (.cells #[.int .i64 0, .int .i64 0, .int .i64 0] 76))
  have B3 := asd (heap_alloc_new w2 (.cells #[.int .i64 0, .int .i64 0, .int .i64 0] 76))
  go_wp2_with fail
  refine (rrun_nobody (HR2.out.below HB3.out) kk HNR.out).mono ?_
  rintro e w4 ⟨rfl, hb⟩
  have HR4 := asd ((HR2.out.below HB3.out).below hb)
  have HT4 := asd ((HT2.out.below HB3.out).below hb)
  have B4 := blk_below B3.out hb
  clear hb
  have B5 := blk_alloc B4 (.cells #[.int .i64 0, .int .i64 0, .int .i64 0] 134)
  have B6 := heap_alloc_new w4 (.cells #[.int .i64 0, .int .i64 0, .int .i64 0] 134)
  have HB5 := asd (below_alloc (Below.refl w4.heap.size w4) (.cells #[.int .i64 0, .int .i64 0, .int .i64 0] 134))
  clear B4
  go_upto_region 14 with fail
  generalize w4.alloc (.cells #[.int .i64 0, .int .i64 0, .int .i64 0] 134) = w5 at B5 B6 HB5 ⊢
  have x0 := (blk_cell B5 0).trans rfl
  have x1 := (blk_cell B5 1).trans rfl
  have x2 := (blk_cell B5 2).trans rfl
  have z0 := (blk_cell B6 0).trans rfl
  have z1 := (blk_cell B6 1).trans rfl
  have z2 := (blk_cell B6 2).trans rfl
  clear B5 B6
  go_wp2
  go_ret
  have hb5 := HB5.out
  exact ⟨by first | rfl | simp, T, R, HT4.out.below hb5, HR4.out.below hb5, HP.out⟩
set_option maxHeartbeats 32000000 in
set_option maxRecDepth 100000 in
theorem do_rise (hT : TabOK w base g T) (hR : RTab w w0 r R) (hb0 : w0.heap.size ≤ base) (hP : PI l T R) (kk arr wrk : Int) (A : Option Addr) (c : Nat) (xs : List S134) (hC : Kd.C k134 w0 A xs.length xs) (hc : xs.length ≤ c) (h70 : xs.length ≤ 70) (tsk dn : Int) : Calls Try.prog 48 #[.pointer (some ⟨g, 0, none⟩), .pointer (some ⟨r, 0, none⟩), .agg #[.int .i64 6, .int .i64 kk, .int .i64 tsk, .int .i64 arr, .int .i64 wrk, .int .i64 dn, .slice A xs.length c]] w fun e w' => e = .returned (.bool true) ∧ DoPost w0 w' base g r l := by
 have hu65 := Try.underlying65
 have hu63 := Try.underlying63
 have hu76 := Try.underlying76
 have hu134 := Try.underlying134
 have hu90 := Try.underlying90
 have ZA := asd (heap_alloc_new w (.cells #[.int .i64 6, .int .i64 kk, .int .i64 tsk, .int .i64 arr, .int .i64 wrk, .int .i64 dn, .slice A xs.length c] 65))
 have HB := below_alloc (Below.refl w.heap.size w) (.cells #[.int .i64 6, .int .i64 kk, .int .i64 tsk, .int .i64 arr, .int .i64 wrk, .int .i64 dn, .slice A xs.length c] 65)
 have HT := asd (hT.below HB)
 have HR := asd (hR.below HB)
 have HP := asd hP
 have HB0 := asd hb0
 have SLT : Aside0 (¬ T.S g w.heap.size) := ⟨fun q => Nat.lt_irrefl _ (hT.lt _ q)⟩
 have SNR : Aside0 (w.heap.size ≠ r) := ⟨fun q => by have := blk_lt hR.blk; omega⟩
 have CX := asd (And.intro hC (And.intro hc h70))
 clear hT hR hP hb0 hC hc h70 HB
 have a0 := (blk_cell ZA.out 0).trans rfl
 have a1 := (blk_cell ZA.out 1).trans rfl
 have WHO : Aside0 (whoR R (fun i _ => !(R.tk i).f0) R.K.length = whoP T (fun i _ => !(T.tk i).f0) T.sl.length) := ⟨by rw [HP.out.K, HP.out.len]; exact HP.out.who (fun i j hi => by rw [HP.out.rtk hi]) _⟩
 obtain ⟨ki, hki⟩ := ints_ev (whoP T (fun i _ => !(T.tk i).f0) T.sl.length) (by have := whoP_len T (fun i _ => !(T.tk i).f0) T.sl.length; have := HT.out.n6; omega)
 have IC := asd hki
 clear hki
 go_enter Try.func48, Try.ntmps48
 go_wp2_with fail
 generalize w.alloc (.cells #[.int .i64 6, .int .i64 kk, .int .i64 tsk, .int .i64 arr, .int .i64 wrk, .int .i64 dn, .slice A xs.length c] 65) = wa at ZA HT HR ⊢
 generalize w.heap.size = s at ZA SLT SNR ⊢
 clear a0 a1
 refine (trise_calls HT.out).mono ?_
 rintro e w2 ⟨⟨A1, c1, rfl, hrow⟩, T2, h2, r2, c2, _, _, hd2⟩
 have HT2 := asd h2
 have RL := asd (And.intro r2 hd2)
 have HR2 := asd (HR.out.other (wt := wa) HT.out HB0.out c2)
 have ROW := asd hrow
 clear hrow h2 r2 c2 hd2
 go_wp2_with fail
 have RC := rrise_calls HR2.out
 rw [WHO.out] at RC
 refine RC.mono ?_
 rintro e w3 ⟨⟨A2, c2, rfl, hrow⟩, R3, h3, k3, i3, j3, c3⟩
 have HR3 := asd (And.intro h3 (And.intro k3 (And.intro i3 j3)))
 have HT3 := asd (HT2.out.doc HR2.out c3)
 have ROW1 := asd (R_chgT rfl ROW.out c3 (fun q cells hc e => by
  rw [e, HR2.out.blk] at hc
  injection hc with hc
  injection hc with _ h2
  exact absurd h2 (by decide)))
 have ROW2 := asd hrow
 clear hrow h3 k3 i3 j3 c3 ROW RC
 go_wp2_with fail
 refine (parcloselaw19_ints.calls ki A1 c1 _ A2 c2 _ true w3 (C_ofR ROW1.out) (Kd.R_reads' ROW1.out).2.1 (C_ofR ROW2.out) (Kd.R_reads' ROW2.out).2.1 IC.out).mono ?_
 rintro e w4 ⟨rfl, hd⟩
 go_wp2
 go_ret
 have hb := hd.below
 refine ⟨rfl, T2, R3, HT3.out.below hb, HR3.out.1.below hb, HP.out.step RL.out.1 HR3.out.2.1 HR3.out.2.2.1 HR3.out.2.2.2 (HP.out.gone (fun i j hi => by rw [HP.out.rtk hi])) RL.out.2 (fun i j hj _ => ?_)⟩
 obtain ⟨q1, q2⟩ := goneP_some hj
 exact ⟨(HP.out.job i j q1).1, fun _ => by simpa using q2⟩
set_option maxHeartbeats 32000000 in
set_option maxRecDepth 100000 in
theorem do_fall (hT : TabOK w base g T) (hR : RTab w w0 r R) (hb0 : w0.heap.size ≤ base) (hP : PI l T R) (kk arr wrk : Int) (A : Option Addr) (c : Nat) (xs : List S134) (hC : Kd.C k134 w0 A xs.length xs) (hc : xs.length ≤ c) (h70 : xs.length ≤ 70) (tsk dn : Int) : Calls Try.prog 48 #[.pointer (some ⟨g, 0, none⟩), .pointer (some ⟨r, 0, none⟩), .agg #[.int .i64 7, .int .i64 kk, .int .i64 tsk, .int .i64 arr, .int .i64 wrk, .int .i64 dn, .slice A xs.length c]] w fun e w' => e = .returned (.bool true) ∧ DoPost w0 w' base g r l := by
 have hu65 := Try.underlying65
 have hu63 := Try.underlying63
 have hu76 := Try.underlying76
 have hu134 := Try.underlying134
 have hu90 := Try.underlying90
 have ZA := asd (heap_alloc_new w (.cells #[.int .i64 7, .int .i64 kk, .int .i64 tsk, .int .i64 arr, .int .i64 wrk, .int .i64 dn, .slice A xs.length c] 65))
 have HB := below_alloc (Below.refl w.heap.size w) (.cells #[.int .i64 7, .int .i64 kk, .int .i64 tsk, .int .i64 arr, .int .i64 wrk, .int .i64 dn, .slice A xs.length c] 65)
 have HT := asd (hT.below HB)
 have HR := asd (hR.below HB)
 have HP := asd hP
 have HB0 := asd hb0
 have SLT : Aside0 (¬ T.S g w.heap.size) := ⟨fun q => Nat.lt_irrefl _ (hT.lt _ q)⟩
 have SNR : Aside0 (w.heap.size ≠ r) := ⟨fun q => by have := blk_lt hR.blk; omega⟩
 have CX := asd (And.intro hC (And.intro hc h70))
 clear hT hR hP hb0 hC hc h70 HB
 have a0 := (blk_cell ZA.out 0).trans rfl
 have a1 := (blk_cell ZA.out 1).trans rfl
 by_cases hf : T.hi = true ∧ T.H.ats.length = 0
 ·have HF := asd hf
  clear hf
  go_enter Try.func48, Try.ntmps48
  go_wp2_with fail
  generalize w.alloc (.cells #[.int .i64 7, .int .i64 kk, .int .i64 tsk, .int .i64 arr, .int .i64 wrk, .int .i64 dn, .slice A xs.length c] 65) = wa at ZA HT HR ⊢
  generalize w.heap.size = s at ZA SLT SNR ⊢
  clear a0 a1
  refine (tfall_yes HT.out HF.out.1 HF.out.2).mono ?_
  rintro e w2 ⟨rfl, rfl, h2⟩
  have HT2 := asd h2
  have HR2 := asd (HR.out.other (wt := wa) HT.out HB0.out ((Chg.refl (T.S g) wa).set_ (p := ⟨g, 2, none⟩) (.inl (.inl rfl)) (.bool false)))
  clear h2
  generalize wa.setCell ⟨g, 2, none⟩ (.bool false) = w2 at HT2 HR2 ⊢
  go_wp2_with fail
  refine (rfall_yes HR2.out (by rw [HP.out.hi]; exact HF.out.1) (by rw [HP.out.num, ← HT.out.cnt]; exact HF.out.2)).mono ?_
  rintro e w3 ⟨rfl, R3, h3, k3, i3, j3, c3⟩
  have HR3 := asd (And.intro h3 (And.intro k3 (And.intro i3 j3)))
  have HT3 := asd (HT2.out.doc HR2.out c3)
  clear h3 k3 i3 j3 c3
  go_wp2
  go_ret
  exact ⟨by first | rfl | simp, _, R3, HT3.out, HR3.out.1, HP.out.hiset (HT.out.len0.1 HF.out.2) HR3.out.2.1 HR3.out.2.2.1 HR3.out.2.2.2⟩
 ·have HF : Aside0 (T.hi = false ∨ 0 < T.H.ats.length) := ⟨by
   by_cases q : T.hi = true
   ·exact .inr (Nat.pos_of_ne_zero (fun q2 => hf ⟨q, q2⟩))
   ·exact .inl (by simpa using q)⟩
  clear hf
  go_enter Try.func48, Try.ntmps48
  go_wp2_with fail
  generalize w.alloc (.cells #[.int .i64 7, .int .i64 kk, .int .i64 tsk, .int .i64 arr, .int .i64 wrk, .int .i64 dn, .slice A xs.length c] 65) = wa at ZA HT HR ⊢
  generalize w.heap.size = s at ZA SLT SNR ⊢
  clear a0 a1
  refine (tfall_no HT.out HF.out).mono ?_
  rintro e w2 ⟨rfl, rfl⟩
  go_wp2_with fail
  refine (rfall_no HR.out (by rw [HP.out.hi, HP.out.num, ← HT.out.cnt]; exact HF.out)).mono ?_
  rintro e w3 ⟨rfl, rfl⟩
  go_wp2
  go_ret
  exact ⟨by first | rfl | simp, T, R, HT.out, HR.out, HP.out⟩
set_option maxHeartbeats 32000000 in
set_option maxRecDepth 100000 in
theorem do_missed (hT : TabOK w base g T) (hR : RTab w w0 r R) (hb0 : w0.heap.size ≤ base) (hP : PI l T R) (kk arr wrk : Int) (A : Option Addr) (c : Nat) (xs : List S134) (hC : Kd.C k134 w0 A xs.length xs) (hc : xs.length ≤ c) (h70 : xs.length ≤ 70) (tsk dn : Int) : Calls Try.prog 48 #[.pointer (some ⟨g, 0, none⟩), .pointer (some ⟨r, 0, none⟩), .agg #[.int .i64 8, .int .i64 kk, .int .i64 tsk, .int .i64 arr, .int .i64 wrk, .int .i64 dn, .slice A xs.length c]] w fun e w' => e = .returned (.bool true) ∧ DoPost w0 w' base g r l := by
 have hu65 := Try.underlying65
 have hu63 := Try.underlying63
 have hu76 := Try.underlying76
 have hu134 := Try.underlying134
 have hu90 := Try.underlying90
 have ZA := asd (heap_alloc_new w (.cells #[.int .i64 8, .int .i64 kk, .int .i64 tsk, .int .i64 arr, .int .i64 wrk, .int .i64 dn, .slice A xs.length c] 65))
 have HB := below_alloc (Below.refl w.heap.size w) (.cells #[.int .i64 8, .int .i64 kk, .int .i64 tsk, .int .i64 arr, .int .i64 wrk, .int .i64 dn, .slice A xs.length c] 65)
 have HT := asd (hT.below HB)
 have HR := asd (hR.below HB)
 have HP := asd hP
 have HB0 := asd hb0
 have SLT : Aside0 (¬ T.S g w.heap.size) := ⟨fun q => Nat.lt_irrefl _ (hT.lt _ q)⟩
 have SNR : Aside0 (w.heap.size ≠ r) := ⟨fun q => by have := blk_lt hR.blk; omega⟩
 have CX := asd (And.intro hC (And.intro hc h70))
 clear hT hR hP hb0 hC hc h70 HB
 have a0 := (blk_cell ZA.out 0).trans rfl
 have a1 := (blk_cell ZA.out 1).trans rfl
 have WHO : Aside0 (whoR R (fun i j => decide (j.arr + (R.tk i).f2 ≤ kk)) R.K.length = whoP T (fun i j => decide (j.arr + (T.tk i).f2 ≤ kk)) T.sl.length) := ⟨by rw [HP.out.K, HP.out.len]; exact HP.out.who (fun i j hi => by rw [HP.out.rtk hi]) _⟩
 obtain ⟨ki, hki⟩ := ints_ev (whoP T (fun i j => decide (j.arr + (T.tk i).f2 ≤ kk)) T.sl.length) (by have := whoP_len T (fun i j => decide (j.arr + (T.tk i).f2 ≤ kk)) T.sl.length; have := HT.out.n6; omega)
 have IC := asd hki
 clear hki
 go_enter Try.func48, Try.ntmps48
 go_wp2
 generalize w.alloc (.cells #[.int .i64 8, .int .i64 kk, .int .i64 tsk, .int .i64 arr, .int .i64 wrk, .int .i64 dn, .slice A xs.length c] 65) = wa at ZA HT HR ⊢
 generalize w.heap.size = s at ZA SLT SNR ⊢
 clear a0 a1
 refine start_ (n := 10) (S := fun w' => w'.cell? ⟨s, 1, none⟩ = some (.int .i64 kk)) (ds := [7, 8]) #[false, false, false, false, false, false, false, false, false, false] (by kernel_rfl) rfl rfl ((blk_cell ZA.out 1).trans rfl) (fun hHeld => ?_); refine with_tabW do20_tab do20_bits (fun HT_ HW_ => ?_)
 have ZAa := asd (blk_drew ZA.out)
 have HTa := asd (HT.out.drew)
 have HRa := asd (HR.out.drew)
 clear HT HR
 generalize wa.drew = wb at ZAa HTa HRa hHeld ⊢
 refine pure_ (i := 0) (N := (some 86)) (v := ?_) (a' := ?_) #[true, false, false, false, false, false, false, false, false, false] rfl rfl (any_of HT_.out (by kernel_rfl)) (fun _ _ _ h => h) (Or.inl ⟨by rfl, ?_⟩) ?_ ?_
 rotate_left
 ·intro w'
  go_simp
  with_reducible rfl
 rotate_left
 ·simp only [Act.put, sB, i64_w, i32_w]
  rfl
 refine pure_ (i := 1) (N := (some 87)) (v := ?_) (a' := ?_) #[true, true, false, false, false, false, false, false, false, false] rfl rfl (any_of HT_.out (by kernel_rfl)) (fun _ _ _ h => h) (Or.inl ⟨by rfl, ?_⟩) ?_ ?_
 rotate_left
 ·intro w'
  go_simp
  with_reducible rfl
 rotate_left
 ·simp only [Act.put, sB, i64_w, i32_w]
  rfl
 refine take_ (i := 2) (N := (some 88)) (v := ?_) (a' := ?_) #[true, true, true, false, false, false, false, false, false, false] rfl rfl (take_ofW HT_.out HW_.out (by kernel_rfl)) (fun _ _ _ h => h) (Or.inl ⟨by rfl, ?_⟩) hHeld ?_ ?_
 rotate_left
 ·rintro w' s0
  go_simp
  with_reducible rfl
 rotate_left
 ·simp only [Act.put, sB, i64_w, i32_w]
  rfl
 refine pure_ (i := 4) (N := (some 90)) (v := ?_) (a' := ?_) #[true, true, true, false, true, false, false, false, false, false] rfl rfl (any_of HT_.out (by kernel_rfl)) (fun _ _ _ h => h) (Or.inl ⟨by rfl, ?_⟩) ?_ ?_
 rotate_left
 ·intro w'
  go_simp
  with_reducible rfl
 rotate_left
 ·simp only [Act.put, sB, i64_w, i32_w]
  rfl
 refine pure_ (i := 5) (N := (some 91)) (v := ?_) (a' := ?_) #[true, true, true, false, true, true, false, false, false, false] rfl rfl (any_of HT_.out (by kernel_rfl)) (fun _ _ _ h => h) (Or.inl ⟨by rfl, ?_⟩) ?_ ?_
 rotate_left
 ·intro w'
  go_simp
  with_reducible rfl
 rotate_left
 ·simp only [Act.put, sB, i64_w, i32_w]
  rfl
 refine take_ (i := 6) (N := (some 92)) (v := ?_) (a' := ?_) #[true, true, true, false, true, true, true, false, false, false] rfl rfl (take_ofW HT_.out HW_.out (by kernel_rfl)) (fun _ _ _ h => h) (Or.inl ⟨by rfl, ?_⟩) hHeld ?_ ?_
 rotate_left
 ·rintro w' s0
  go_simp
  with_reducible rfl
 rotate_left
 ·simp only [Act.put, sB, i64_w, i32_w]
  rfl
 refine one_ (i := 3) (N := (some 89)) #[true, true, true, true, true, true, true, false, false, false] rfl rfl (one_of HT_.out (by kernel_rfl)) (by decide) (fun K hK => ?_)
 refine goes_ Try.func42 (by kernel_rfl) rfl #[.pointer (some ⟨g, 0, none⟩), .int .i64 kk] (by rfl) rfl rfl (by simp [Act.eval]) ?_
 refine (tmissed_calls HTa.out kk).mono ?_
 rintro e w2 ⟨⟨A1, c1, rfl, hrow⟩, T2, h2, r2, c2, s2⟩
 have HT2 := asd h2
 have RL := asd r2
 have HR2 := asd (HRa.out.other (wt := wb) HTa.out HB0.out c2)
 have ROW := asd hrow
 have ZA2 := asd (blk_chg ZAa.out c2 SLT.out)
 clear hrow h2 r2 c2 s2 HTa HRa ZAa
 have RC := rmissed_calls HR2.out kk
 rw [WHO.out] at RC
 refine ⟨_, rfl, ?_⟩
 refine hK.out _ _ ((blk_cell ZA2.out 1).trans rfl) (fun hHeld => ?_)
 clear hK K
 refine norm_ (a' := ?_) ?_ ?_
 rotate_left
 ·show Act.put _ (some 89) _ = _
  simp only [Act.put, sB, i64_w, i32_w]
  rfl
 refine last_ (i := 7) (N := (some 93)) #[true, true, true, true, true, true, true, true, false, false] rfl rfl (one_of HT_.out (by kernel_rfl)) (by decide) (fun K hK => ?_)
 refine goes_ Try.func97 (by kernel_rfl) rfl #[.pointer (some ⟨r, 0, none⟩), .int .i64 kk] (by rfl) rfl rfl (by simp [Act.eval]) ?_
 refine (RC).mono ?_
 rintro e w3 ⟨⟨A2, c2, rfl, hrow⟩, R3, h3, k3, i3, j3, c3⟩
 have HR3 := asd (And.intro h3 (And.intro k3 (And.intro i3 j3)))
 have HT3 := asd (HT2.out.doc HR2.out c3)
 have ROW1 := asd (R_chgT rfl ROW.out c3 (fun q cells hc e => by
  rw [e, HR2.out.blk] at hc
  injection hc with hc
  injection hc with _ h2
  exact absurd h2 (by decide)))
 have ROW2 := asd hrow
 clear hrow h3 k3 i3 j3 c3 ROW RC
 refine ⟨_, rfl, ?_⟩
 refine hK.out _ _ ?_
 clear hK K
 refine norm_ (a' := ?_) ?_ ?_
 rotate_left
 ·show Act.put _ (some 93) _ = _
  simp only [Act.put, sB, i64_w, i32_w]
  rfl
 refine last_ (i := 8) (N := (some 94)) #[true, true, true, true, true, true, true, true, true, false] rfl rfl (one_of HT_.out (by kernel_rfl)) (by decide) (fun K hK => ?_)
 refine goes_ Try.func94 (by kernel_rfl) rfl #[.slice A1 (whoP T (fun i j => decide (j.arr + (T.tk i).f2 ≤ kk)) T.sl.length).length c1, .slice A2 (whoP T (fun i j => decide (j.arr + (T.tk i).f2 ≤ kk)) T.sl.length).length c2] (by rfl) rfl rfl (by simp [Act.eval]) ?_
 refine (parcloselaw19_ints.calls ki A1 c1 _ A2 c2 _ true w3 (C_ofR ROW1.out) (Kd.R_reads' ROW1.out).2.1 (C_ofR ROW2.out) (Kd.R_reads' ROW2.out).2.1 IC.out).mono ?_
 rintro e w4 ⟨rfl, hd⟩
 have HDB := asd hd.below
 clear hd
 refine ⟨_, rfl, ?_⟩
 refine hK.out _ _ ?_
 clear hK K
 refine norm_ (a' := ?_) ?_ ?_
 rotate_left
 ·show Act.put _ (some 94) _ = _
  simp only [Act.put, sB, i64_w, i32_w]
  rfl
 refine pure_ (i := 9) (N := (some 6)) (v := ?_) (a' := ?_) #[true, true, true, true, true, true, true, true, true, true] rfl rfl (any_of HT_.out (by kernel_rfl)) (fun _ _ _ h => h) (Or.inl ⟨by rfl, ?_⟩) ?_ ?_
 rotate_left
 ·intro w'
  go_simp
  with_reducible rfl
 rotate_left
 ·simp only [Act.put, sB, i64_w, i32_w]
  rfl
 refine done_ (done_of HT_.out (by kernel_rfl)) ?_
 try go_wp2
 go_ret
 have hb := HDB.out
 refine ⟨rfl, T2, R3, HT3.out.below hb, HR3.out.1.below hb, HP.out.step RL.out HR3.out.2.1 (HR3.out.2.2.1.trans HP.out.hi) HR3.out.2.2.2 (HP.out.gone (fun i j hi => by rw [HP.out.rtk hi])) (HP.out.dm RL.out) (fun i j hj _ => ?_)⟩
 exact HP.out.job i j (goneP_some hj).1
set_option maxHeartbeats 32000000 in
set_option maxRecDepth 100000 in
theorem do_clear (hT : TabOK w base g T) (hR : RTab w w0 r R) (hb0 : w0.heap.size ≤ base) (hP : PI l T R) (kk arr wrk : Int) (A : Option Addr) (c : Nat) (xs : List S134) (hC : Kd.C k134 w0 A xs.length xs) (hc : xs.length ≤ c) (h70 : xs.length ≤ 70) (tsk dn : Int) : Calls Try.prog 48 #[.pointer (some ⟨g, 0, none⟩), .pointer (some ⟨r, 0, none⟩), .agg #[.int .i64 9, .int .i64 kk, .int .i64 tsk, .int .i64 arr, .int .i64 wrk, .int .i64 dn, .slice A xs.length c]] w fun e w' => e = .returned (.bool true) ∧ DoPost w0 w' base g r l := by
 have hu65 := Try.underlying65
 have hu63 := Try.underlying63
 have hu76 := Try.underlying76
 have hu134 := Try.underlying134
 have hu90 := Try.underlying90
 have ZA := asd (heap_alloc_new w (.cells #[.int .i64 9, .int .i64 kk, .int .i64 tsk, .int .i64 arr, .int .i64 wrk, .int .i64 dn, .slice A xs.length c] 65))
 have HB := below_alloc (Below.refl w.heap.size w) (.cells #[.int .i64 9, .int .i64 kk, .int .i64 tsk, .int .i64 arr, .int .i64 wrk, .int .i64 dn, .slice A xs.length c] 65)
 have HT := asd (hT.below HB)
 have HR := asd (hR.below HB)
 have HP := asd hP
 have HB0 := asd hb0
 have SLT : Aside0 (¬ T.S g w.heap.size) := ⟨fun q => Nat.lt_irrefl _ (hT.lt _ q)⟩
 have SNR : Aside0 (w.heap.size ≠ r) := ⟨fun q => by have := blk_lt hR.blk; omega⟩
 have CX := asd (And.intro hC (And.intro hc h70))
 clear hT hR hP hb0 hC hc h70 HB
 have a0 := (blk_cell ZA.out 0).trans rfl
 have a1 := (blk_cell ZA.out 1).trans rfl
 go_enter Try.func48, Try.ntmps48
 go_wp2_with fail
 generalize w.alloc (.cells #[.int .i64 9, .int .i64 kk, .int .i64 tsk, .int .i64 arr, .int .i64 wrk, .int .i64 dn, .slice A xs.length c] 65) = wa at ZA HT HR ⊢
 generalize w.heap.size = s at ZA SLT SNR ⊢
 clear a0 a1
 refine (tclear_calls HT.out).mono ?_
 rintro e w2 ⟨rfl, T2, h2, r2, c2, s2, hd2⟩
 have HT2 := asd h2
 have RL := asd (And.intro r2 hd2)
 have HR2 := asd (HR.out.other (wt := wa) HT.out HB0.out c2)
 clear h2 r2 c2 s2 hd2
 go_wp2_with fail
 refine (rclear_calls HR2.out).mono ?_
 rintro e w3 ⟨rfl, R3, h3, k3, i3, j3, c3⟩
 have HR3 := asd (And.intro h3 (And.intro k3 (And.intro i3 j3)))
 have HT3 := asd (HT2.out.doc HR2.out c3)
 clear h3 k3 i3 j3 c3
 go_wp2
 go_ret
 exact ⟨rfl, T2, R3, HT3.out, HR3.out.1, HP.out.step RL.out.1 HR3.out.2.1 HR3.out.2.2.1 HR3.out.2.2.2 (fun _ => rfl) RL.out.2 (fun i j hj _ => by cases hj)⟩
set_option maxHeartbeats 32000000 in
set_option maxRecDepth 100000 in
theorem do_other (hT : TabOK w base g T) (hR : RTab w w0 r R) (hb0 : w0.heap.size ≤ base) (hP : PI l T R) (kk arr wrk : Int) (A : Option Addr) (c : Nat) (xs : List S134) (hC : Kd.C k134 w0 A xs.length xs) (hc : xs.length ≤ c) (h70 : xs.length ≤ 70) (kd tsk dn : Int) (n0 : kd ≠ 0) (n1 : kd ≠ 1) (n2 : kd ≠ 2) (n3 : kd ≠ 3) (n4 : kd ≠ 4) (n5 : kd ≠ 5) (n6 : kd ≠ 6) (n7 : kd ≠ 7) (n8 : kd ≠ 8) (n9 : kd ≠ 9) : Calls Try.prog 48 #[.pointer (some ⟨g, 0, none⟩), .pointer (some ⟨r, 0, none⟩), .agg #[.int .i64 kd, .int .i64 kk, .int .i64 tsk, .int .i64 arr, .int .i64 wrk, .int .i64 dn, .slice A xs.length c]] w fun e w' => e = .returned (.bool true) ∧ DoPost w0 w' base g r l := by
 have e0 : (kd == 0) = false := beq_eq_false_iff_ne.2 n0
 have f0 : decide (kd = 0) = false := decide_eq_false n0
 have e1 : (kd == 1) = false := beq_eq_false_iff_ne.2 n1
 have f1 : decide (kd = 1) = false := decide_eq_false n1
 have e2 : (kd == 2) = false := beq_eq_false_iff_ne.2 n2
 have f2 : decide (kd = 2) = false := decide_eq_false n2
 have e3 : (kd == 3) = false := beq_eq_false_iff_ne.2 n3
 have f3 : decide (kd = 3) = false := decide_eq_false n3
 have e4 : (kd == 4) = false := beq_eq_false_iff_ne.2 n4
 have f4 : decide (kd = 4) = false := decide_eq_false n4
 have e5 : (kd == 5) = false := beq_eq_false_iff_ne.2 n5
 have f5 : decide (kd = 5) = false := decide_eq_false n5
 have e6 : (kd == 6) = false := beq_eq_false_iff_ne.2 n6
 have f6 : decide (kd = 6) = false := decide_eq_false n6
 have e7 : (kd == 7) = false := beq_eq_false_iff_ne.2 n7
 have f7 : decide (kd = 7) = false := decide_eq_false n7
 have e8 : (kd == 8) = false := beq_eq_false_iff_ne.2 n8
 have f8 : decide (kd = 8) = false := decide_eq_false n8
 have e9 : (kd == 9) = false := beq_eq_false_iff_ne.2 n9
 have f9 : decide (kd = 9) = false := decide_eq_false n9
 clear n0 n1 n2 n3 n4 n5 n6 n7 n8 n9
 have hu65 := Try.underlying65
 have hu63 := Try.underlying63
 have hu76 := Try.underlying76
 have hu134 := Try.underlying134
 have hu90 := Try.underlying90
 have ZA := asd (heap_alloc_new w (.cells #[.int .i64 kd, .int .i64 kk, .int .i64 tsk, .int .i64 arr, .int .i64 wrk, .int .i64 dn, .slice A xs.length c] 65))
 have HB := below_alloc (Below.refl w.heap.size w) (.cells #[.int .i64 kd, .int .i64 kk, .int .i64 tsk, .int .i64 arr, .int .i64 wrk, .int .i64 dn, .slice A xs.length c] 65)
 have HT := asd (hT.below HB)
 have HR := asd (hR.below HB)
 have HP := asd hP
 have HB0 := asd hb0
 have SLT : Aside0 (¬ T.S g w.heap.size) := ⟨fun q => Nat.lt_irrefl _ (hT.lt _ q)⟩
 have SNR : Aside0 (w.heap.size ≠ r) := ⟨fun q => by have := blk_lt hR.blk; omega⟩
 have CX := asd (And.intro hC (And.intro hc h70))
 clear hT hR hP hb0 hC hc h70 HB
 have a0 := (blk_cell ZA.out 0).trans rfl
 have a1 := (blk_cell ZA.out 1).trans rfl
 go_enter Try.func48, Try.ntmps48
 go_wp2
 go_ret
 exact ⟨rfl, T, R, HT.out, HR.out, HP.out⟩
end
end Go.Proofs.Ytjekfipaadbbbaa.Fn
namespace Go.Proofs.Ytjekfipaadbbbaa.Fn
open Go.RowKit Go.Proofs.YtjekfipaadbbbaaW.PrintWords Go.Proofs.YtjekfipaadbbbaaW.PrintLast Go.Proofs.YtjekfipaadbbbaaW.PrintMore
set_option linter.unusedVariables false
set_option linter.unusedSimpArgs false
section
variable {w w0 : World} {base g r : Nat} {T : TD} {R : RD} {l : List S44}
theorem do_calls (hT : TabOK w base g T) (hR : RTab w w0 r R) (hb0 : w0.heap.size ≤ base) (hP : PI l T R) (x : S65) (A : Option Addr) (c : Nat) (hC : Kd.C k134 w0 A x.f2.f4.length x.f2.f4) (hc : x.f2.f4.length ≤ c) (h70 : x.f2.f4.length ≤ 70) : Calls Try.prog 48 #[.pointer (some ⟨g, 0, none⟩), .pointer (some ⟨r, 0, none⟩), .agg #[.int .i64 x.f0, .int .i64 x.f1, .int .i64 x.f2.f0, .int .i64 x.f2.f1, .int .i64 x.f2.f2, .int .i64 x.f2.f3, .slice A x.f2.f4.length c]] w fun e w' => e = .returned (.bool true) ∧ DoPost w0 w' base g r l := by
 obtain ⟨kd, kk, tsk, arr, wrk, dn, xs⟩ := x
 have hC : Kd.C k134 w0 A xs.length xs := hC
 have hc : xs.length ≤ c := hc
 have h70 : xs.length ≤ 70 := h70
 show Calls Try.prog 48 #[.pointer (some ⟨g, 0, none⟩), .pointer (some ⟨r, 0, none⟩), .agg #[.int .i64 kd, .int .i64 kk, .int .i64 tsk, .int .i64 arr, .int .i64 wrk, .int .i64 dn, .slice A xs.length c]] w fun e w' => e = .returned (.bool true) ∧ DoPost w0 w' base g r l
 by_cases n0 : kd = 0
 ·subst n0
  by_cases hk : 0 ≤ tsk ∧ tsk < T.sl.length
  ·obtain ⟨k, rfl⟩ : ∃ k : Nat, tsk = k := ⟨tsk.toNat, by omega⟩
   have hkl : k < T.sl.length := by omega
   cases hj : rjob arr wrk dn (xs.map jop) with
   | false => exact do_put0_bad hT hR hb0 hP kk arr wrk A c xs hC hc h70 k dn hkl hj
   | true =>
    cases hp : T.pt k with
    | some b => exact do_put0_there hT hR hb0 hP kk arr wrk A c xs hC hc h70 k b dn hkl hp hj
    | none =>
     have hd0 : dn = 0 := (of_decide_eq_true hj).2.2.1
     by_cases hd : T.hi = true ∧ (T.tk k).f0 = false
     ·exact do_put0_drop hT hR hb0 hP kk arr wrk A c xs hC hc h70 k dn hkl hp hd.1 hd.2 hj
     ·subst hd0
      refine do_put0_ok hT hR hb0 hP kk arr wrk A c xs hC hc h70 k hkl hp ?_ hj
      cases e : T.hi with
      | false => exact .inl rfl
      | true => exact .inr (by cases e2 : (T.tk k).f0 with | true => rfl | false => exact absurd ⟨e, e2⟩ hd)
  ·exact do_put0_out hT hR hb0 hP kk arr wrk A c xs hC hc h70 tsk dn hk
 by_cases n1 : kd = 1
 ·subst n1
  by_cases hk : 0 ≤ tsk ∧ tsk < T.sl.length
  ·obtain ⟨k, rfl⟩ : ∃ k : Nat, tsk = k := ⟨tsk.toNat, by omega⟩
   have hkl : k < T.sl.length := by omega
   cases hj : rjob arr wrk dn (xs.map jop) with
   | false => exact do_put1_bad hT hR hb0 hP kk arr wrk A c xs hC hc h70 k dn hkl hj
   | true =>
    cases hp : T.pt k with
    | some b => exact do_put1_there hT hR hb0 hP kk arr wrk A c xs hC hc h70 k b dn hkl hp hj
    | none =>
     have hd0 : dn = 0 := (of_decide_eq_true hj).2.2.1
     by_cases hd : T.hi = true ∧ (T.tk k).f0 = false
     ·exact do_put1_drop hT hR hb0 hP kk arr wrk A c xs hC hc h70 k dn hkl hp hd.1 hd.2 hj
     ·subst hd0
      refine do_put1_ok hT hR hb0 hP kk arr wrk A c xs hC hc h70 k hkl hp ?_ hj
      cases e : T.hi with
      | false => exact .inl rfl
      | true => exact .inr (by cases e2 : (T.tk k).f0 with | true => rfl | false => exact absurd ⟨e, e2⟩ hd)
  ·exact do_put1_out hT hR hb0 hP kk arr wrk A c xs hC hc h70 tsk dn hk
 by_cases n2 : kd = 2
 ·subst n2; exact do_run2 hT hR hb0 hP kk arr wrk A c xs hC hc h70 tsk dn
 by_cases n3 : kd = 3
 ·subst n3; exact do_run3 hT hR hb0 hP kk arr wrk A c xs hC hc h70 tsk dn
 by_cases n4 : kd = 4
 ·subst n4; exact do_run4 hT hR hb0 hP kk arr wrk A c xs hC hc h70 tsk dn
 by_cases n5 : kd = 5
 ·subst n5; exact do_run5 hT hR hb0 hP kk arr wrk A c xs hC hc h70 tsk dn
 by_cases n6 : kd = 6
 ·subst n6; exact do_rise hT hR hb0 hP kk arr wrk A c xs hC hc h70 tsk dn
 by_cases n7 : kd = 7
 ·subst n7; exact do_fall hT hR hb0 hP kk arr wrk A c xs hC hc h70 tsk dn
 by_cases n8 : kd = 8
 ·subst n8; exact do_missed hT hR hb0 hP kk arr wrk A c xs hC hc h70 tsk dn
 by_cases n9 : kd = 9
 ·subst n9; exact do_clear hT hR hb0 hP kk arr wrk A c xs hC hc h70 tsk dn
 exact do_other hT hR hb0 hP kk arr wrk A c xs hC hc h70 kd tsk dn n0 n1 n2 n3 n4 n5 n6 n7 n8 n9
theorem TD.Least.one {k k' : Nat} {j j' : JB} (h : T.Least k j) (h' : T.Least k' j') : k' = k ∧ j' = j := by
 have a := h.2 k' j' h'.1
 have b := h'.2 k j h.1
 have e : k' = k := by rcases a with a | a <;> rcases b with b | b <;> omega
 subst e
 have q := h.1
 rw [h'.1] at q
 exact ⟨rfl, Option.some.inj q⟩
theorem first_any (hT : TabOK w base g T) (hP : PI l T R) : ∃ (m d : Int) (ok : Bool), (∀ wq, TabOK wq base g T → Calls Try.prog 43 #[.pointer (some ⟨g, 0, none⟩)] wq fun e w' => e = .returned (.tuple #[.int .i64 m, .int .i64 d, .bool ok]) ∧ Below wq.heap.size wq w') ∧ ∀ wq, RTab wq w0 r R → Calls Try.prog 49 #[.pointer (some ⟨r, 0, none⟩)] wq fun e w' => e = .returned (.tuple #[.int .i64 m, .int .i64 d, .bool ok]) ∧ Below wq.heap.size wq w' := by
 rcases Nat.eq_zero_or_pos T.H.ats.length with h0 | h0
 ·have hn := hT.len0.1 h0
  exact ⟨0, 0, false, fun wq hq => tfirst_none hq hn, fun wq hq => rfirst_none hq (fun k => (hP.js k).trans (hn k))⟩
 ·obtain ⟨k, j, _, _, hl⟩ := hT.least hP.set h0
  refine ⟨k, dueT T.hi (T.tk k) j, true, fun wq hq => (tfirst_some hq hP.set h0).mono ?_, fun wq hq => ?_⟩
  ·rintro e w' ⟨⟨k', j', rfl, hl'⟩, hb⟩
   obtain ⟨rfl, rfl⟩ := hl.one hl'
   exact ⟨rfl, hb⟩
  ·have hk : R.is k = true := (RD.js_some ((hP.js k).trans hl.1)).1
   refine (rfirst_some hq hk).mono ?_
   rintro e w' ⟨⟨k', rfl, hl'⟩, hb⟩
   obtain ⟨rfl, e2⟩ := hP.least hl hl'
   rw [e2]
   exact ⟨rfl, hb⟩
theorem gets_any (hT : TabOK w base g T) (hP : PI l T R) (kk : Int) : ∃ (j : JB) (ok : Bool), j.ops.length ≤ 64 ∧ (∀ wq, TabOK wq base g T → Calls Try.prog 45 #[.pointer (some ⟨g, 0, none⟩), .int .i64 kk] wq fun e w' => ∃ A c, e = .returned (.tuple #[.agg #[.int .i64 j.tsk, .int .i64 j.arr, .int .i64 j.wrk, .int .i64 j.dn, .slice A j.ops.length c], .bool ok]) ∧ j.ops.length ≤ c ∧ Kd.C k76 w' A j.ops.length j.ops ∧ Below wq.heap.size wq w') ∧ ∀ wq, RTab wq w0 r R → Calls Try.prog 50 #[.pointer (some ⟨r, 0, none⟩), .int .i64 kk] wq fun e w' => ∃ (A : Option Addr) (c : Nat) (xs : List S134), e = .returned (.tuple #[.agg #[.int .i64 j.tsk, .int .i64 j.arr, .int .i64 j.wrk, .int .i64 j.dn, .slice A xs.length c], .bool ok]) ∧ xs.length ≤ c ∧ Kd.C k134 w' A xs.length xs ∧ j.ops = xs.map jop ∧ Below wq.heap.size wq w' := by
 by_cases hk : 0 ≤ kk ∧ ∃ b, T.pt kk.toNat = some b
 ·obtain ⟨h0, b, hb⟩ := hk
  obtain ⟨k, rfl⟩ : ∃ k : Nat, kk = k := ⟨kk.toNat, by omega⟩
  rw [Int.toNat_natCast] at hb
  have hjs : T.js k = some (T.jb k) := by unfold TD.js; rw [hb]; rfl
  have hkl := (TD.js_some hjs).1
  obtain ⟨h1, h2⟩ := hP.is_some hb
  refine ⟨T.jb k, true, (hT.job k b hkl hb).2.1.ops, fun wq hq => tget_some hq k b hkl hb, fun wq hq => ?_⟩
  have h3 := rget_some hq k h1
  rw [h2] at h3
  exact h3
 ·have hno : kk < 0 ∨ T.js kk.toNat = none := by
   by_cases q : kk < 0
   ·exact .inl q
   ·refine .inr (TD.js_none.2 ?_)
    cases e : T.pt kk.toNat with
    | none => rfl
    | some b => exact absurd ⟨by omega, b, e⟩ hk
  refine ⟨⟨0, 0, 0, 0, []⟩, false, by simp, fun wq hq => (tget_none hq kk hno).mono ?_, fun wq hq => (rget_none hq kk (hno.imp_right (fun q => (hP.js _).trans q))).mono ?_⟩
  ·rintro e w' ⟨rfl, hb⟩
   exact ⟨none, 0, rfl, Nat.le_refl _, (Kd.R_reads' (Kd.R_nil k76 76 w' 0 (fun _ => True))).2.2, hb⟩
  ·rintro e w' ⟨rfl, hb⟩
   exact ⟨none, 0, [], rfl, Nat.le_refl _, (Kd.R_reads' (Kd.R_nil k134 134 w' 0 (fun _ => True))).2.2, rfl, hb⟩
end
end Go.Proofs.Ytjekfipaadbbbaa.Fn
namespace Go.Proofs.Ytjekfipaadbbbaa.Fn
open Go.RowKit Go.Proofs.YtjekfipaadbbbaaW.PrintWords Go.Proofs.YtjekfipaadbbbaaW.PrintLast Go.Proofs.YtjekfipaadbbbaaW.PrintMore
set_option linter.unusedVariables false
set_option linter.unusedSimpArgs false
end Go.Proofs.Ytjekfipaadbbbaa.Fn
namespace Go.Proofs.Ytjekfipaadbbbaa.Fn
open Go.RowKit Go.Proofs.YtjekfipaadbbbaaW.PrintWords Go.Proofs.YtjekfipaadbbbaaW.PrintLast Go.Proofs.YtjekfipaadbbbaaW.PrintMore
set_option linter.unusedVariables false
set_option linter.unusedSimpArgs false
def pl16T : Bool × List (List Nat × List Nat) := (true, [([], []), ([], []), ([0, 1], [0, 1]), ([2], [2]), ([3], [3]), ([3], [3]), ([4, 5, 3], [3, 4, 5]), ([3, 6], [3, 6]), ([7, 3], [7]), ([8], [8]), ([8], [8]), ([9, 10, 8], [8, 9, 10]), ([8, 11], [8, 11]), ([12, 8], [12]), ([13], [13]), ([14, 13, 13], [13, 14]), ([13], [13]), ([15, 16, 15, 13], [13, 15, 16]), ([17, 13], [13, 17]), ([13, 18], [13, 18]), ([19, 17], [19]), ([20], [20]), ([20], [20]), ([21, 22, 20], [20, 21, 22]), ([20, 23], [20, 23]), ([24, 20], [24]), ([25], [25]), ([26, 25, 25], [25, 26]), ([25], [25]), ([28, 27, 25], [25, 28]), ([27, 29, 25], [25, 27, 29]), ([25, 30], [25, 30]), ([31, 29], [31]), ([32], [32]), ([33, 32, 32], [32, 33]), ([32], [32]), ([35, 32], [32, 35]), ([36, 32], [32, 36]), ([37, 32], [32, 37]), ([34, 38, 32], [32, 34, 38]), ([32, 39], [32, 39])])
def pl16B : List Nat := [0, 0, 3, 7, 15, 15, 63, 127, 255, 511, 511, 2047, 4095, 8191, 16383, 32767, 16383, 131071, 262143, 524287, 1048575, 2097151, 2097151, 8388607, 16777215, 33554431, 67108863, 134217727, 67108863, 536870911, 1073741823, 2147483647, 4294967295, 8589934591, 17179869183, 8589934591, 42949672959, 111669149695, 249108103167, 549755813887, 1099511627775]
theorem pl16_tab : rtab .any (opsOf Try.f8 16) = pl16T := by kernel_rfl
theorem pl16_bits : waitsOk pl16T.2 pl16B = true := by kernel_rfl
set_option maxHeartbeats 32000000 in
set_option maxRecDepth 100000 in
theorem tplays_walk (a0 : Option Addr) (c0 : Nat) (l : List S44) (a1 : Option Addr) (c1 : Nat) (xs : List S65) (w : World) (hr0 : Kd.C k44 w a0 l.length l) (hr1 : Kd.C k65 w a1 xs.length xs) (hc1 : xs.length ≤ c1) (hl : l.length * 48 ≤ 140737488351232) : Calls Try.prog 8 #[.slice a0 l.length c0, .slice a1 xs.length c1] w fun e w' => e = .returned (.bool true) ∧ Below w.heap.size w w' := by
 have HR0 := asd hr0
 have HR1 := asd hr1
 have HC1 := asd hc1
 obtain ⟨kl, lb, hkl, hlb⟩ := light_ev xs
 have LC := asd (fun wq (hq : Kd.C k65 wq a1 xs.length xs) => parcloselaw19_light.calls kl a1 c1 xs lb wq hq hc1 hkl)
 have LB := asd hlb
 have hu65 := Try.underlying65
 have hu63 := Try.underlying63
 have hu69 := Try.underlying69
 have hu44 := Try.underlying44
 have hu90 := Try.underlying90
 have hu77 := Try.underlying77
 clear hr0 hr1 hc1 hkl hlb hl
 by_cases h20 : l.length ≤ 20
 ·have H20 := asd h20
  have d0 : decide ((l.length : Int) > 20) = false := decide_eq_false (by omega)
  have d1 : decide (20 < (l.length : Int)) = false := d0
  have d2 : decide (20 < l.length) = false := decide_eq_false (by omega)
  clear h20
  go_enter Try.func8, Try.ntmps8
  cases lb with
  | false =>
   go_wp2_with fail
   refine (LC.out w HR1.out).mono ?_
   rintro e w2 ⟨rfl, hd⟩
   have HB2 := asd hd.below
   clear hd
   go_wp2_with fail
   refine (tknows_calls _).mono ?_
   rintro e wk ⟨rfl, hb⟩
   have HBK := asd (below_step HB2.out hb)
   clear hb
   go_wp2
   go_ret
   exact ⟨rfl, HBK.out⟩
  | true =>
   have X120 := asd (LB.out rfl)
   go_wp2_with fail
   refine (LC.out w HR1.out).mono ?_
   rintro e w2 ⟨rfl, hd⟩
   have HB2 := asd hd.below
   clear hd
   go_wp2_with fail
   refine (tknows_calls _).mono ?_
   rintro e w3 ⟨rfl, hb⟩
   have HB3 := asd (below_step HB2.out hb)
   clear hb
   go_wp2_with fail
   refine (town_calls a0 c0 l w3 (Kd.C_below HR0.out HB3.out) (by have := H20.out; omega)).mono ?_
   rintro e w1 ⟨hmade, hb1⟩
   unfold TMade at hmade
   by_cases hm : l.length ≤ 6 ∧ l.all rtC = true
   ·have HM := asd hm
    rw [if_pos hm] at hmade
    obtain ⟨base, g, T, rfl, ht, hsl, hhi, hdm, hlo⟩ := hmade
    have HB1 := asd (below_step HB3.out hb1)
    have HT3 := asd ht
    have LO : Aside0 (w.heap.size ≤ base) := ⟨Nat.le_trans HB3.out.size hlo⟩
    have NOJ : Aside0 (∀ k, T.js k = none) := ⟨fun k => TD.js_none.2 (by
     unfold TD.pt
     rw [hsl, List.getD_eq_getElem?_getD, List.getElem?_map]
     cases hq : l[k]? with
     | none => simp [zSl]
     | some q => simp)⟩
    have HSL := asd hsl
    have HHI := asd hhi
    have HDM := asd hdm
    clear ht hsl hhi hdm hlo hb1 hm
    go_wp2_with fail
    refine (rnew_calls a0 c0 l w1 w HB1.out HR0.out H20.out).mono ?_
    rintro e w4 ⟨hmade, hb⟩
    unfold RMade at hmade
    rw [if_pos HM.out] at hmade
    obtain ⟨r, R, rfl, hr, hrK, hri, hrh⟩ := hmade
    have HT4 := asd (HT3.out.below hb)
    have HR4 := asd hr
    have P4 : Aside0 (PI l T R) := ⟨⟨by rw [HSL.out, List.length_map], hrK, fun i hi => by
     unfold TD.tk
     rw [HSL.out, List.getD_eq_getElem?_getD, List.getElem?_map, List.getElem?_eq_getElem hi, getD_lt l z44 hi]; rfl, HDM.out, by rw [hrh, HHI.out], fun k => by
     rw [RD.js_none.2 (hri k)]
     exact (NOJ.out k).symm, fun k j hj => by rw [NOJ.out k] at hj; cases hj⟩⟩
    clear hb HT3 hr hrK hri hrh
    go_wp2
    go_loopw [7] (fun v7 wr => ∃ (i : Nat) (T : TD) (R : RD), v7 = .int .i64 i ∧ Aside0 (i ≤ xs.length) ∧ Aside0 (TabOK wr base g T) ∧ Aside0 (RTab wr w r R) ∧ Aside0 (PI l T R)) (fun v _ => xs.length - (intOf v).toNat)
    case atStart => exact ⟨0, T, R, rfl, ⟨by omega⟩, HT4, HR4, P4⟩
    case round =>
     clear HT4 HR4 P4
     obtain ⟨i, T, R, rfl, HI, HT, HR, HP⟩ := hrel
     have i99 : (i : Int) ≤ 120 := by have := HI.out; have := X120.out.1; omega
     by_cases hi : i < xs.length
     ·have q1 : decide ((i : Int) < (xs.length : Int)) = true := decide_eq_true (by omega)
      have q2 : decide (i < xs.length) = true := decide_eq_true hi
      have p0 : (0 ≤ (i : Int)) = True := eq_true (by omega)
      have p1 : ((i : Int) < (xs.length : Int)) = True := eq_true (by omega)
      have p2 : (i < xs.length) = True := eq_true hi
      have HII := asd hi
      obtain ⟨ad, A6, c6, hae, y0, y1, y2, y3, y4, y5, y6, hl6, hcc6⟩ := at_T65 HR1.out (i : Int) (by omega) (by omega)
      subst hae
      have CO := asd (And.intro hl6 hcc6)
      have er : rd_T65 xs (i : Int) = xs.getD i z65 := by unfold rd_T65; rw [Int.toNat_natCast]
      rw [er] at y0 y1 y2 y3 y4 y5 y6 CO
      rw [Int.toNat_natCast] at y0 y1 y2 y3 y4 y5 y6
      have X70 := asd (X120.out.2 i hi)
      generalize xs.getD i z65 = x at y0 y1 y2 y3 y4 y5 y6 CO X70
      have Y1 := asd y1
      replace y0 := pw_cell_below HR.out.fr y0
      replace y1 := pw_cell_below HR.out.fr y1
      replace y2 := pw_cell_below HR.out.fr y2
      replace y3 := pw_cell_below HR.out.fr y3
      replace y4 := pw_cell_below HR.out.fr y4
      replace y5 := pw_cell_below HR.out.fr y5
      replace y6 := pw_cell_below HR.out.fr y6
      clear hi hl6 hcc6 er
      go_wp2_with fail
      refine (do_calls HT.out HR.out LO.out HP.out x A6 c6 CO.out.2 CO.out.1 X70.out).mono ?_
      rintro e w5 ⟨rfl, T2, R2, h2, h3, h4⟩
      have HT2 := asd h2
      have HR2 := asd h3
      have HP2 := asd h4
      clear h2 h3 h4 y0 y1 y2 y3 y4 y5 y6 p0 p1 p2 q1 q2
      obtain ⟨m, d, ok, hf1, hf2⟩ := first_any (w0 := w) (r := r) HT2.out HP2.out
      have F1 := asd hf1
      have F2 := asd hf2
      obtain ⟨j, p, hj64, hg1, hg2⟩ := gets_any (w0 := w) (r := r) HT2.out HP2.out x.f1
      have G1 := asd hg1
      have G2 := asd hg2
      have J64 := asd hj64
      have HHI2 := asd HP2.out.hi
      have RLEN : Aside0 (∀ wq, RTab wq w r R2 → Calls Try.prog 54 #[.pointer (some ⟨r, 0, none⟩)] wq fun e w' => e = .returned (.int .i64 T2.H.ats.length) ∧ wq = w') := ⟨fun wq hq => by
       have h1 := rlen_calls hq
       rw [HP2.out.num, ← HT2.out.cnt] at h1
       exact h1⟩
      have qm1 : (m == m) = true := beq_self_eq_true m
      have qd1 : (d == d) = true := beq_self_eq_true d
      have qo1 : (ok == ok) = true := beq_self_eq_true ok
      have qp1 : (p == p) = true := beq_self_eq_true p
      clear hf1 hf2 hg1 hg2 hj64
      go_wp2_with fail
      refine (F1.out _ HT2.out).mono ?_
      rintro e w6 ⟨rfl, hb⟩
      have HT3 := asd (HT2.out.below hb)
      have HR3 := asd (HR2.out.below hb)
      clear hb HT2 HR2
      go_wp2_with fail
      refine (F2.out _ HR3.out).mono ?_
      rintro e w7 ⟨rfl, hb⟩
      have HT4 := asd (HT3.out.below hb)
      have HR4 := asd (HR3.out.below hb)
      clear hb HT3 HR3
      have y1 := pw_cell_below HR4.out.fr Y1.out
      have p0 : (0 ≤ (i : Int)) = True := eq_true (by omega)
      have p1 : ((i : Int) < (xs.length : Int)) = True := eq_true (by have := HII.out; omega)
      have p2 : (i < xs.length) = True := eq_true HII.out
      go_wp2_with fail
      refine (G1.out _ HT4.out).mono ?_
      rintro e w8 ⟨A7, c7, rfl, hc7, hC7, hb⟩
      have hb2 := below_step hb (below_alloc (Below.refl w8.heap.size w8) (.cells #[.int .i64 j.tsk, .int .i64 j.arr, .int .i64 j.wrk, .int .i64 j.dn, .slice A7 j.ops.length c7] 69))
      have HT5 := asd (HT4.out.below hb2)
      have HR5 := asd (HR4.out.below hb2)
      have B75 := asd (heap_alloc_new w8 (.cells #[.int .i64 j.tsk, .int .i64 j.arr, .int .i64 j.wrk, .int .i64 j.dn, .slice A7 j.ops.length c7] 69))
      have C75 := asd (Kd.C_below hC7 (below_alloc (Below.refl w8.heap.size w8) (.cells #[.int .i64 j.tsk, .int .i64 j.arr, .int .i64 j.wrk, .int .i64 j.dn, .slice A7 j.ops.length c7] 69)))
      clear hb hb2 hC7 HT4 HR4 y1
      have y1 := pw_cell_below HR5.out.fr Y1.out
      go_wp2_with fail
      refine (G2.out _ HR5.out).mono ?_
      rintro e w9 ⟨A8, c8, ys, rfl, hc8, hC8, hops, hb⟩
      have hb2 := below_step hb (below_alloc (Below.refl w9.heap.size w9) (.cells #[.int .i64 j.tsk, .int .i64 j.arr, .int .i64 j.wrk, .int .i64 j.dn, .slice A8 ys.length c8] 63))
      have HTa := asd (HT5.out.below hb2)
      have HRa := asd (HR5.out.below hb2)
      have B7a := asd (blk_below B75.out hb2)
      have B8a := asd (heap_alloc_new w9 (.cells #[.int .i64 j.tsk, .int .i64 j.arr, .int .i64 j.wrk, .int .i64 j.dn, .slice A8 ys.length c8] 63))
      have C7 := asd (Kd.C_below C75.out hb2)
      have C8 := asd (Kd.C_below hC8 (below_alloc (Below.refl w9.heap.size w9) (.cells #[.int .i64 j.tsk, .int .i64 j.arr, .int .i64 j.wrk, .int .i64 j.dn, .slice A8 ys.length c8] 63)))
      have CA := asd (And.intro hc7 (And.intro hc8 (And.intro J64.out hops)))
      obtain ⟨ks, hks⟩ := same_ev j.tsk j.arr j.wrk j.dn ys (by have h1 := J64.out; rw [hops, List.length_map] at h1; omega)
      have HKS := asd hks
      clear hb hb2 hC8 HT5 HR5 B75 C75 y1 hc7 hc8 hops hks
      go_upto_region 16 with fail
      generalize w9.alloc (.cells #[.int .i64 j.tsk, .int .i64 j.arr, .int .i64 j.wrk, .int .i64 j.dn, .slice A8 ys.length c8] 63) = wa at HTa HRa B7a B8a C7 C8 ⊢
      generalize w8.heap.size = s7 at B7a ⊢
      generalize w9.heap.size = s8 at B8a ⊢
      refine start_ (n := 41) (S := fun w' => w'.cell? ⟨s7, 0, none⟩ = some (.int .i64 j.tsk) ∧ w'.cell? ⟨s7, 1, none⟩ = some (.int .i64 j.arr) ∧ w'.cell? ⟨s7, 2, none⟩ = some (.int .i64 j.wrk) ∧ w'.cell? ⟨s7, 3, none⟩ = some (.int .i64 j.dn) ∧ w'.cell? ⟨s7, 4, none⟩ = some (.slice A7 j.ops.length c7) ∧ w'.cell? ⟨s8, 0, none⟩ = some (.int .i64 j.tsk) ∧ w'.cell? ⟨s8, 1, none⟩ = some (.int .i64 j.arr) ∧ w'.cell? ⟨s8, 2, none⟩ = some (.int .i64 j.wrk) ∧ w'.cell? ⟨s8, 3, none⟩ = some (.int .i64 j.dn) ∧ w'.cell? ⟨s8, 4, none⟩ = some (.slice A8 ys.length c8) ∧ w'.cell? ⟨r, 37, none⟩ = some (.bool R2.hi)) (ds := []) #[false, false, false, false, false, false, false, false, false, false, false, false, false, false, false, false, false, false, false, false, false, false, false, false, false, false, false, false, false, false, false, false, false, false, false, false, false, false, false, false, false] (by kernel_rfl) rfl rfl ⟨(blk_cell B7a.out 0).trans rfl, (blk_cell B7a.out 1).trans rfl, (blk_cell B7a.out 2).trans rfl, (blk_cell B7a.out 3).trans rfl, (blk_cell B7a.out 4).trans rfl, (blk_cell B8a.out 0).trans rfl, (blk_cell B8a.out 1).trans rfl, (blk_cell B8a.out 2).trans rfl, (blk_cell B8a.out 3).trans rfl, (blk_cell B8a.out 4).trans rfl, HRa.out.cHi⟩ (fun hHeld => ?_); refine with_tabW pl16_tab pl16_bits (fun HT_ HW_ => ?_)
      have HTb := asd HTa.out.drew
      have HRb := asd HRa.out.drew
      have B7b := asd (blk_drew B7a.out)
      have B8b := asd (blk_drew B8a.out)
      have C7b := asd (Kd.C_drew C7.out)
      have C8b := asd (Kd.C_drew C8.out)
      clear HTa HRa B7a B8a C7 C8
      generalize wa.drew = wb at HTb HRb B7b B8b C7b C8b hHeld ⊢
      refine pure_ (i := 0) (N := (some 90)) (v := ?_) (a' := ?_) #[true, false, false, false, false, false, false, false, false, false, false, false, false, false, false, false, false, false, false, false, false, false, false, false, false, false, false, false, false, false, false, false, false, false, false, false, false, false, false, false, false] rfl rfl (any_of HT_.out (by kernel_rfl)) (fun _ _ _ h => h) (Or.inl ⟨by rfl, ?_⟩) ?_ ?_
      rotate_left
      ·intro w'
       go_simp
       with_reducible rfl
      rotate_left
      ·simp only [Act.put, sB, i64_w, i32_w]
       rfl
      refine pure_ (i := 1) (N := (some 91)) (v := ?_) (a' := ?_) #[true, true, false, false, false, false, false, false, false, false, false, false, false, false, false, false, false, false, false, false, false, false, false, false, false, false, false, false, false, false, false, false, false, false, false, false, false, false, false, false, false] rfl rfl (any_of HT_.out (by kernel_rfl)) (fun _ _ _ h => h) (Or.inl ⟨by rfl, ?_⟩) ?_ ?_
      rotate_left
      ·intro w'
       go_simp
       with_reducible rfl
      rotate_left
      ·simp only [Act.put, sB, i64_w, i32_w]
       rfl
      refine pure_ (i := 2) (N := (some 92)) (v := ?_) (a' := ?_) #[true, true, true, false, false, false, false, false, false, false, false, false, false, false, false, false, false, false, false, false, false, false, false, false, false, false, false, false, false, false, false, false, false, false, false, false, false, false, false, false, false] rfl rfl (any_of HT_.out (by kernel_rfl)) (fun _ _ _ h => h) (Or.inl ⟨by rfl, ?_⟩) ?_ ?_
      rotate_left
      ·intro w'
       go_simp
       with_reducible rfl
      rotate_left
      ·simp only [Act.put, sB, i64_w, i32_w]
       rfl
      refine pure_ (i := 3) (N := (some 93)) (v := ?_) (a' := ?_) #[true, true, true, true, false, false, false, false, false, false, false, false, false, false, false, false, false, false, false, false, false, false, false, false, false, false, false, false, false, false, false, false, false, false, false, false, false, false, false, false, false] rfl rfl (any_of HT_.out (by kernel_rfl)) (fun _ _ _ h => h) (Or.inl ⟨by rfl, ?_⟩) ?_ ?_
      rotate_left
      ·intro w'
       go_simp
       with_reducible rfl
      rotate_left
      ·simp only [Act.put, sB, i64_w, i32_w]
       rfl
      refine pure_ (i := 4) (N := (some 94)) (v := ?_) (a' := ?_) #[true, true, true, true, true, false, false, false, false, false, false, false, false, false, false, false, false, false, false, false, false, false, false, false, false, false, false, false, false, false, false, false, false, false, false, false, false, false, false, false, false] rfl rfl (any_of HT_.out (by kernel_rfl)) (fun _ _ _ h => h) (Or.inl ⟨by rfl, ?_⟩) ?_ ?_
      rotate_left
      ·intro w'
       go_simp
       with_reducible rfl
      rotate_left
      ·simp only [Act.put, sB, i64_w, i32_w]
       rfl
      refine pure_ (i := 5) (N := (some 95)) (v := ?_) (a' := ?_) #[true, true, true, true, true, true, false, false, false, false, false, false, false, false, false, false, false, false, false, false, false, false, false, false, false, false, false, false, false, false, false, false, false, false, false, false, false, false, false, false, false] rfl rfl (any_of HT_.out (by kernel_rfl)) (fun _ _ _ h => h) (Or.inl ⟨by rfl, ?_⟩) ?_ ?_
      rotate_left
      ·intro w'
       go_simp
       with_reducible rfl
      rotate_left
      ·simp only [Act.put, sB, i64_w, i32_w]
       rfl
      refine pure_ (i := 6) (N := (some 96)) (v := ?_) (a' := ?_) #[true, true, true, true, true, true, true, false, false, false, false, false, false, false, false, false, false, false, false, false, false, false, false, false, false, false, false, false, false, false, false, false, false, false, false, false, false, false, false, false, false] rfl rfl (any_of HT_.out (by kernel_rfl)) (fun _ _ _ h => h) (Or.inl ⟨by rfl, ?_⟩) ?_ ?_
      rotate_left
      ·intro w'
       go_simp
       with_reducible rfl
      rotate_left
      ·simp only [Act.put, sB, i64_w, i32_w]
       rfl
      refine pure_ (i := 7) (N := (some 97)) (v := ?_) (a' := ?_) #[true, true, true, true, true, true, true, true, false, false, false, false, false, false, false, false, false, false, false, false, false, false, false, false, false, false, false, false, false, false, false, false, false, false, false, false, false, false, false, false, false] rfl rfl (any_of HT_.out (by kernel_rfl)) (fun _ _ _ h => h) (Or.inl ⟨by rfl, ?_⟩) ?_ ?_
      rotate_left
      ·intro w'
       go_simp
       with_reducible rfl
      rotate_left
      ·simp only [Act.put, sB, i64_w, i32_w]
       rfl
      refine pure_ (i := 8) (N := (some 98)) (v := ?_) (a' := ?_) #[true, true, true, true, true, true, true, true, true, false, false, false, false, false, false, false, false, false, false, false, false, false, false, false, false, false, false, false, false, false, false, false, false, false, false, false, false, false, false, false, false] rfl rfl (any_of HT_.out (by kernel_rfl)) (fun _ _ _ h => h) (Or.inl ⟨by rfl, ?_⟩) ?_ ?_
      rotate_left
      ·intro w'
       go_simp
       with_reducible rfl
      rotate_left
      ·simp only [Act.put, sB, i64_w, i32_w]
       rfl
      refine pure_ (i := 9) (N := (some 99)) (v := ?_) (a' := ?_) #[true, true, true, true, true, true, true, true, true, true, false, false, false, false, false, false, false, false, false, false, false, false, false, false, false, false, false, false, false, false, false, false, false, false, false, false, false, false, false, false, false] rfl rfl (any_of HT_.out (by kernel_rfl)) (fun _ _ _ h => h) (Or.inl ⟨by rfl, ?_⟩) ?_ ?_
      rotate_left
      ·intro w'
       go_simp
       with_reducible rfl
      rotate_left
      ·simp only [Act.put, sB, i64_w, i32_w]
       rfl
      refine pure_ (i := 10) (N := (some 100)) (v := ?_) (a' := ?_) #[true, true, true, true, true, true, true, true, true, true, true, false, false, false, false, false, false, false, false, false, false, false, false, false, false, false, false, false, false, false, false, false, false, false, false, false, false, false, false, false, false] rfl rfl (any_of HT_.out (by kernel_rfl)) (fun _ _ _ h => h) (Or.inl ⟨by rfl, ?_⟩) ?_ ?_
      rotate_left
      ·intro w'
       go_simp
       with_reducible rfl
      rotate_left
      ·simp only [Act.put, sB, i64_w, i32_w]
       rfl
      refine pure_ (i := 11) (N := (some 101)) (v := ?_) (a' := ?_) #[true, true, true, true, true, true, true, true, true, true, true, true, false, false, false, false, false, false, false, false, false, false, false, false, false, false, false, false, false, false, false, false, false, false, false, false, false, false, false, false, false] rfl rfl (any_of HT_.out (by kernel_rfl)) (fun _ _ _ h => h) (Or.inl ⟨by rfl, ?_⟩) ?_ ?_
      rotate_left
      ·intro w'
       go_simp
       with_reducible rfl
      rotate_left
      ·simp only [Act.put, sB, i64_w, i32_w]
       rfl
      refine pure_ (i := 12) (N := (some 102)) (v := ?_) (a' := ?_) #[true, true, true, true, true, true, true, true, true, true, true, true, true, false, false, false, false, false, false, false, false, false, false, false, false, false, false, false, false, false, false, false, false, false, false, false, false, false, false, false, false] rfl rfl (any_of HT_.out (by kernel_rfl)) (fun _ _ _ h => h) (Or.inl ⟨by rfl, ?_⟩) ?_ ?_
      rotate_left
      ·intro w'
       go_simp
       with_reducible rfl
      rotate_left
      ·simp only [Act.put, sB, i64_w, i32_w]
       rfl
      refine pure_ (i := 13) (N := (some 103)) (v := ?_) (a' := ?_) #[true, true, true, true, true, true, true, true, true, true, true, true, true, true, false, false, false, false, false, false, false, false, false, false, false, false, false, false, false, false, false, false, false, false, false, false, false, false, false, false, false] rfl rfl (any_of HT_.out (by kernel_rfl)) (fun _ _ _ h => h) (Or.inl ⟨by rfl, ?_⟩) ?_ ?_
      rotate_left
      ·intro w'
       go_simp
       with_reducible rfl
      rotate_left
      ·simp only [Act.put, sB, i64_w, i32_w]
       rfl
      refine take_ (i := 14) (N := (some 104)) (v := ?_) (a' := ?_) #[true, true, true, true, true, true, true, true, true, true, true, true, true, true, true, false, false, false, false, false, false, false, false, false, false, false, false, false, false, false, false, false, false, false, false, false, false, false, false, false, false] rfl rfl (take_ofW HT_.out HW_.out (by kernel_rfl)) (fun _ _ _ h => h) (Or.inl ⟨by rfl, ?_⟩) hHeld ?_ ?_
      rotate_left
      ·rintro w' ⟨s0, s1, s2, s3, s4, s5, s6, s7, s8, s9, s10⟩
       go_simp
       with_reducible rfl
      rotate_left
      ·simp only [Act.put, sB, i64_w, i32_w]
       rfl
      refine take_ (i := 16) (N := (some 106)) (v := ?_) (a' := ?_) #[true, true, true, true, true, true, true, true, true, true, true, true, true, true, true, false, true, false, false, false, false, false, false, false, false, false, false, false, false, false, false, false, false, false, false, false, false, false, false, false, false] rfl rfl (take_ofW HT_.out HW_.out (by kernel_rfl)) (fun _ _ _ h => h) (Or.inl ⟨by rfl, ?_⟩) hHeld ?_ ?_
      rotate_left
      ·rintro w' ⟨s0, s1, s2, s3, s4, s5, s6, s7, s8, s9, s10⟩
       go_simp
       with_reducible rfl
      rotate_left
      ·simp only [Act.put, sB, i64_w, i32_w]
       rfl
      refine one_ (i := 15) (N := (some 105)) #[true, true, true, true, true, true, true, true, true, true, true, true, true, true, true, true, true, false, false, false, false, false, false, false, false, false, false, false, false, false, false, false, false, false, false, false, false, false, false, false, false] rfl rfl (one_of HT_.out (by kernel_rfl)) (by decide) (fun K hK => ?_)
      refine goes_ Try.func52 (by kernel_rfl) rfl #[.agg #[.int .i64 j.tsk, .int .i64 j.arr, .int .i64 j.wrk, .int .i64 j.dn, .slice A7 j.ops.length c7]] (by rfl) rfl rfl (by simp [Act.eval]) ?_
      refine (refjob_calls j.tsk j.arr j.wrk j.dn A7 c7 j.ops wb C7b.out CA.out.1 (by have := CA.out.2.2.1; omega)).mono ?_
      rintro e wc ⟨v, rfl, hv, hb⟩
      obtain ⟨Av, cv, rfl⟩ := Kd.R_slice hv
      have HV := asd (And.intro (C_ofR hv) (Kd.R_reads' hv).2.1)
      have PJ : Aside0 (j.ops.map pjo = ys) := ⟨by rw [CA.out.2.2.2, pjo_jop]⟩
      have HTc := asd (HTb.out.below hb)
      have HRc := asd (HRb.out.below hb)
      have B7c := asd (blk_below B7b.out hb)
      have B8c := asd (blk_below B8b.out hb)
      have C8c := asd (Kd.C_below C8b.out hb)
      rw [PJ.out] at HV ⊢
      clear hv hb HTb HRb B7b B8b C7b C8b
      refine ⟨_, rfl, ?_⟩
      refine hK.out _ _ ⟨(blk_cell B7c.out 0).trans rfl, (blk_cell B7c.out 1).trans rfl, (blk_cell B7c.out 2).trans rfl, (blk_cell B7c.out 3).trans rfl, (blk_cell B7c.out 4).trans rfl, (blk_cell B8c.out 0).trans rfl, (blk_cell B8c.out 1).trans rfl, (blk_cell B8c.out 2).trans rfl, (blk_cell B8c.out 3).trans rfl, (blk_cell B8c.out 4).trans rfl, HRc.out.cHi⟩ (fun hHeld => ?_)
      clear hK K
      refine norm_ (a' := ?_) ?_ ?_
      rotate_left
      ·show Act.put _ (some 105) _ = _
       simp only [Act.put, sB, i64_w, i32_w]
       rfl
      refine one_ (i := 17) (N := (some 107)) #[true, true, true, true, true, true, true, true, true, true, true, true, true, true, true, true, true, true, false, false, false, false, false, false, false, false, false, false, false, false, false, false, false, false, false, false, false, false, false, false, false] rfl rfl (one_of HT_.out (by kernel_rfl)) (by decide) (fun K hK => ?_)
      refine goes_ Try.func51 (by kernel_rfl) rfl #[.agg #[.int .i64 j.tsk, .int .i64 j.arr, .int .i64 j.wrk, .int .i64 j.dn, .slice Av ys.length cv], .agg #[.int .i64 j.tsk, .int .i64 j.arr, .int .i64 j.wrk, .int .i64 j.dn, .slice A8 ys.length c8]] (by rfl) rfl rfl (by simp [Act.eval]) ?_
      refine (parcloseref19_Same.calls ks j.tsk j.arr j.wrk j.dn Av cv ys j.tsk j.arr j.wrk j.dn A8 c8 ys true wc HV.out.1 HV.out.2 C8c.out CA.out.2.1 HKS.out).mono ?_
      rintro e wd ⟨rfl, hd⟩
      have hb := hd
      have HTd := asd (HTc.out.below hb)
      have HRd := asd (HRc.out.below hb)
      have B7d := asd (blk_below B7c.out hb)
      have B8d := asd (blk_below B8c.out hb)
      clear hd hb HTc HRc B7c B8c
      refine ⟨_, rfl, ?_⟩
      refine hK.out _ _ ⟨(blk_cell B7d.out 0).trans rfl, (blk_cell B7d.out 1).trans rfl, (blk_cell B7d.out 2).trans rfl, (blk_cell B7d.out 3).trans rfl, (blk_cell B7d.out 4).trans rfl, (blk_cell B8d.out 0).trans rfl, (blk_cell B8d.out 1).trans rfl, (blk_cell B8d.out 2).trans rfl, (blk_cell B8d.out 3).trans rfl, (blk_cell B8d.out 4).trans rfl, HRd.out.cHi⟩ (fun hHeld => ?_)
      clear hK K
      refine norm_ (a' := ?_) ?_ ?_
      rotate_left
      ·show Act.put _ (some 107) _ = _
       simp only [Act.put, sB, i64_w, i32_w]
       rfl
      refine pure_ (i := 18) (N := (some 108)) (v := ?_) (a' := ?_) #[true, true, true, true, true, true, true, true, true, true, true, true, true, true, true, true, true, true, true, false, false, false, false, false, false, false, false, false, false, false, false, false, false, false, false, false, false, false, false, false, false] rfl rfl (any_of HT_.out (by kernel_rfl)) (fun _ _ _ h => h) (Or.inl ⟨by rfl, ?_⟩) ?_ ?_
      rotate_left
      ·intro w'
       go_simp
       with_reducible rfl
      rotate_left
      ·simp only [Act.put, sB, i64_w, i32_w]
       rfl
      refine pure_ (i := 19) (N := (some 109)) (v := ?_) (a' := ?_) #[true, true, true, true, true, true, true, true, true, true, true, true, true, true, true, true, true, true, true, true, false, false, false, false, false, false, false, false, false, false, false, false, false, false, false, false, false, false, false, false, false] rfl rfl (any_of HT_.out (by kernel_rfl)) (fun _ _ _ h => h) (Or.inl ⟨by rfl, ?_⟩) ?_ ?_
      rotate_left
      ·intro w'
       go_simp
       with_reducible rfl
      rotate_left
      ·simp only [Act.put, sB, i64_w, i32_w]
       rfl
      refine pure_ (i := 20) (N := (some 110)) (v := ?_) (a' := ?_) #[true, true, true, true, true, true, true, true, true, true, true, true, true, true, true, true, true, true, true, true, true, false, false, false, false, false, false, false, false, false, false, false, false, false, false, false, false, false, false, false, false] rfl rfl (any_of HT_.out (by kernel_rfl)) (fun _ _ _ h => h) (Or.inl ⟨by rfl, ?_⟩) ?_ ?_
      rotate_left
      ·intro w'
       go_simp
       with_reducible rfl
      rotate_left
      ·simp only [Act.put, sB, i64_w, i32_w]
       rfl
      refine pure_ (i := 21) (N := (some 111)) (v := ?_) (a' := ?_) #[true, true, true, true, true, true, true, true, true, true, true, true, true, true, true, true, true, true, true, true, true, true, false, false, false, false, false, false, false, false, false, false, false, false, false, false, false, false, false, false, false] rfl rfl (any_of HT_.out (by kernel_rfl)) (fun _ _ _ h => h) (Or.inl ⟨by rfl, ?_⟩) ?_ ?_
      rotate_left
      ·intro w'
       go_simp
       with_reducible rfl
      rotate_left
      ·simp only [Act.put, sB, i64_w, i32_w]
       rfl
      refine pure_ (i := 22) (N := (some 112)) (v := ?_) (a' := ?_) #[true, true, true, true, true, true, true, true, true, true, true, true, true, true, true, true, true, true, true, true, true, true, true, false, false, false, false, false, false, false, false, false, false, false, false, false, false, false, false, false, false] rfl rfl (any_of HT_.out (by kernel_rfl)) (fun _ _ _ h => h) (Or.inl ⟨by rfl, ?_⟩) ?_ ?_
      rotate_left
      ·intro w'
       go_simp
       with_reducible rfl
      rotate_left
      ·simp only [Act.put, sB, i64_w, i32_w]
       rfl
      refine pure_ (i := 23) (N := (some 113)) (v := ?_) (a' := ?_) #[true, true, true, true, true, true, true, true, true, true, true, true, true, true, true, true, true, true, true, true, true, true, true, true, false, false, false, false, false, false, false, false, false, false, false, false, false, false, false, false, false] rfl rfl (any_of HT_.out (by kernel_rfl)) (fun _ _ _ h => h) (Or.inl ⟨by rfl, ?_⟩) ?_ ?_
      rotate_left
      ·intro w'
       go_simp
       with_reducible rfl
      rotate_left
      ·simp only [Act.put, sB, i64_w, i32_w]
       rfl
      refine pure_ (i := 24) (N := (some 114)) (v := ?_) (a' := ?_) #[true, true, true, true, true, true, true, true, true, true, true, true, true, true, true, true, true, true, true, true, true, true, true, true, true, false, false, false, false, false, false, false, false, false, false, false, false, false, false, false, false] rfl rfl (any_of HT_.out (by kernel_rfl)) (fun _ _ _ h => h) (Or.inl ⟨by rfl, ?_⟩) ?_ ?_
      rotate_left
      ·intro w'
       go_simp
       with_reducible rfl
      rotate_left
      ·simp only [Act.put, sB, i64_w, i32_w]
       rfl
      refine pure_ (i := 25) (N := (some 115)) (v := ?_) (a' := ?_) #[true, true, true, true, true, true, true, true, true, true, true, true, true, true, true, true, true, true, true, true, true, true, true, true, true, true, false, false, false, false, false, false, false, false, false, false, false, false, false, false, false] rfl rfl (any_of HT_.out (by kernel_rfl)) (fun _ _ _ h => h) (Or.inl ⟨by rfl, ?_⟩) ?_ ?_
      rotate_left
      ·intro w'
       go_simp
       with_reducible rfl
      rotate_left
      ·simp only [Act.put, sB, i64_w, i32_w]
       rfl
      refine pure_ (i := 26) (N := (some 116)) (v := ?_) (a' := ?_) #[true, true, true, true, true, true, true, true, true, true, true, true, true, true, true, true, true, true, true, true, true, true, true, true, true, true, true, false, false, false, false, false, false, false, false, false, false, false, false, false, false] rfl rfl (any_of HT_.out (by kernel_rfl)) (fun _ _ _ h => h) (Or.inl ⟨by rfl, ?_⟩) ?_ ?_
      rotate_left
      ·intro w'
       go_simp
       with_reducible rfl
      rotate_left
      ·simp only [Act.put, sB, i64_w, i32_w]
       rfl
      refine pure_ (i := 28) (N := (some 118)) (v := ?_) (a' := ?_) #[true, true, true, true, true, true, true, true, true, true, true, true, true, true, true, true, true, true, true, true, true, true, true, true, true, true, true, false, true, false, false, false, false, false, false, false, false, false, false, false, false] rfl rfl (any_of HT_.out (by kernel_rfl)) (fun _ _ _ h => h) (Or.inl ⟨by rfl, ?_⟩) ?_ ?_
      rotate_left
      ·intro w'
       go_simp
       with_reducible rfl
      rotate_left
      ·simp only [Act.put, sB, i64_w, i32_w]
       rfl
      refine one_ (i := 27) (N := (some 117)) #[true, true, true, true, true, true, true, true, true, true, true, true, true, true, true, true, true, true, true, true, true, true, true, true, true, true, true, true, true, false, false, false, false, false, false, false, false, false, false, false, false] rfl rfl (one_of HT_.out (by kernel_rfl)) (by decide) (fun K hK => ?_)
      refine goes_ Try.func53 (by kernel_rfl) rfl #[.pointer (some ⟨g, 0, none⟩)] (by rfl) rfl rfl (by simp [Act.eval]) ?_
      refine (tlen_calls HTd.out).mono ?_
      rintro e we ⟨rfl, rfl⟩
      refine ⟨_, rfl, ?_⟩
      refine hK.out _ _ ⟨(blk_cell B7d.out 0).trans rfl, (blk_cell B7d.out 1).trans rfl, (blk_cell B7d.out 2).trans rfl, (blk_cell B7d.out 3).trans rfl, (blk_cell B7d.out 4).trans rfl, (blk_cell B8d.out 0).trans rfl, (blk_cell B8d.out 1).trans rfl, (blk_cell B8d.out 2).trans rfl, (blk_cell B8d.out 3).trans rfl, (blk_cell B8d.out 4).trans rfl, HRd.out.cHi⟩ (fun hHeld => ?_)
      clear hK K
      refine norm_ (a' := ?_) ?_ ?_
      rotate_left
      ·show Act.put _ (some 117) _ = _
       simp only [Act.put, sB, i64_w, i32_w]
       rfl
      refine one_ (i := 29) (N := (some 119)) #[true, true, true, true, true, true, true, true, true, true, true, true, true, true, true, true, true, true, true, true, true, true, true, true, true, true, true, true, true, true, false, false, false, false, false, false, false, false, false, false, false] rfl rfl (one_of HT_.out (by kernel_rfl)) (by decide) (fun K hK => ?_)
      refine goes_ Try.func54 (by kernel_rfl) rfl #[.pointer (some ⟨r, 0, none⟩)] (by rfl) rfl rfl (by simp [Act.eval]) ?_
      refine (RLEN.out wd HRd.out).mono ?_
      rintro e we ⟨rfl, rfl⟩
      refine ⟨_, rfl, ?_⟩
      refine hK.out _ _ ⟨(blk_cell B7d.out 0).trans rfl, (blk_cell B7d.out 1).trans rfl, (blk_cell B7d.out 2).trans rfl, (blk_cell B7d.out 3).trans rfl, (blk_cell B7d.out 4).trans rfl, (blk_cell B8d.out 0).trans rfl, (blk_cell B8d.out 1).trans rfl, (blk_cell B8d.out 2).trans rfl, (blk_cell B8d.out 3).trans rfl, (blk_cell B8d.out 4).trans rfl, HRd.out.cHi⟩ (fun hHeld => ?_)
      clear hK K
      refine norm_ (a' := ?_) ?_ ?_
      rotate_left
      ·show Act.put _ (some 119) _ = _
       simp only [Act.put, sB, i64_w, i32_w]
       rfl
      refine pure_ (i := 30) (N := (some 120)) (v := ?_) (a' := ?_) #[true, true, true, true, true, true, true, true, true, true, true, true, true, true, true, true, true, true, true, true, true, true, true, true, true, true, true, true, true, true, true, false, false, false, false, false, false, false, false, false, false] rfl rfl (any_of HT_.out (by kernel_rfl)) (fun _ _ _ h => h) (Or.inl ⟨by rfl, ?_⟩) ?_ ?_
      rotate_left
      ·intro w'
       go_simp
       with_reducible rfl
      rotate_left
      ·simp only [Act.put, sB, i64_w, i32_w]
       rfl
      refine pure_ (i := 31) (N := (some 121)) (v := ?_) (a' := ?_) #[true, true, true, true, true, true, true, true, true, true, true, true, true, true, true, true, true, true, true, true, true, true, true, true, true, true, true, true, true, true, true, true, false, false, false, false, false, false, false, false, false] rfl rfl (any_of HT_.out (by kernel_rfl)) (fun _ _ _ h => h) (Or.inl ⟨by rfl, ?_⟩) ?_ ?_
      rotate_left
      ·intro w'
       go_simp
       with_reducible rfl
      rotate_left
      ·simp only [Act.put, sB, i64_w, i32_w]
       rfl
      refine pure_ (i := 32) (N := (some 122)) (v := ?_) (a' := ?_) #[true, true, true, true, true, true, true, true, true, true, true, true, true, true, true, true, true, true, true, true, true, true, true, true, true, true, true, true, true, true, true, true, true, false, false, false, false, false, false, false, false] rfl rfl (any_of HT_.out (by kernel_rfl)) (fun _ _ _ h => h) (Or.inl ⟨by rfl, ?_⟩) ?_ ?_
      rotate_left
      ·intro w'
       go_simp
       with_reducible rfl
      rotate_left
      ·simp only [Act.put, sB, i64_w, i32_w]
       rfl
      refine pure_ (i := 33) (N := (some 123)) (v := ?_) (a' := ?_) #[true, true, true, true, true, true, true, true, true, true, true, true, true, true, true, true, true, true, true, true, true, true, true, true, true, true, true, true, true, true, true, true, true, true, false, false, false, false, false, false, false] rfl rfl (any_of HT_.out (by kernel_rfl)) (fun _ _ _ h => h) (Or.inl ⟨by rfl, ?_⟩) ?_ ?_
      rotate_left
      ·intro w'
       go_simp
       with_reducible rfl
      rotate_left
      ·simp only [Act.put, sB, i64_w, i32_w]
       rfl
      refine pure_ (i := 35) (N := (some 125)) (v := ?_) (a' := ?_) #[true, true, true, true, true, true, true, true, true, true, true, true, true, true, true, true, true, true, true, true, true, true, true, true, true, true, true, true, true, true, true, true, true, true, false, true, false, false, false, false, false] rfl rfl (any_of HT_.out (by kernel_rfl)) (fun _ _ _ h => h) (Or.inl ⟨by rfl, ?_⟩) ?_ ?_
      rotate_left
      ·intro w'
       go_simp
       with_reducible rfl
      rotate_left
      ·simp only [Act.put, sB, i64_w, i32_w]
       rfl
      refine pure_ (i := 36) (N := (some 126)) (v := ?_) (a' := ?_) #[true, true, true, true, true, true, true, true, true, true, true, true, true, true, true, true, true, true, true, true, true, true, true, true, true, true, true, true, true, true, true, true, true, true, false, true, true, false, false, false, false] rfl rfl (any_of HT_.out (by kernel_rfl)) (fun _ _ _ h => h) (Or.inl ⟨by rfl, ?_⟩) ?_ ?_
      rotate_left
      ·intro w'
       go_simp
       with_reducible rfl
      rotate_left
      ·simp only [Act.put, sB, i64_w, i32_w]
       rfl
      refine pure_ (i := 37) (N := (some 127)) (v := ?_) (a' := ?_) #[true, true, true, true, true, true, true, true, true, true, true, true, true, true, true, true, true, true, true, true, true, true, true, true, true, true, true, true, true, true, true, true, true, true, false, true, true, true, false, false, false] rfl rfl (any_of HT_.out (by kernel_rfl)) (fun _ _ _ h => h) (Or.inl ⟨by rfl, ?_⟩) ?_ ?_
      rotate_left
      ·intro w'
       go_simp
       with_reducible rfl
      rotate_left
      ·simp only [Act.put, sB, i64_w, i32_w]
       rfl
      refine take_ (i := 38) (N := (some 128)) (v := ?_) (a' := ?_) #[true, true, true, true, true, true, true, true, true, true, true, true, true, true, true, true, true, true, true, true, true, true, true, true, true, true, true, true, true, true, true, true, true, true, false, true, true, true, true, false, false] rfl rfl (take_ofW HT_.out HW_.out (by kernel_rfl)) (fun _ _ _ h => h) (Or.inl ⟨by rfl, ?_⟩) hHeld ?_ ?_
      rotate_left
      ·rintro w' ⟨s0, s1, s2, s3, s4, s5, s6, s7, s8, s9, s10⟩
       go_simp
       with_reducible rfl
      rotate_left
      ·simp only [Act.put, sB, i64_w, i32_w]
       rfl
      refine one_ (i := 34) (N := (some 124)) #[true, true, true, true, true, true, true, true, true, true, true, true, true, true, true, true, true, true, true, true, true, true, true, true, true, true, true, true, true, true, true, true, true, true, true, true, true, true, true, false, false] rfl rfl (one_of HT_.out (by kernel_rfl)) (by decide) (fun K hK => ?_)
      refine goes_ Try.func44 (by kernel_rfl) rfl #[.pointer (some ⟨g, 0, none⟩)] (by rfl) rfl rfl (by simp [Act.eval]) ?_
      refine (thigh_calls HTd.out).mono ?_
      rintro e we ⟨rfl, rfl⟩
      refine ⟨_, rfl, ?_⟩
      refine hK.out _ _ ⟨(blk_cell B7d.out 0).trans rfl, (blk_cell B7d.out 1).trans rfl, (blk_cell B7d.out 2).trans rfl, (blk_cell B7d.out 3).trans rfl, (blk_cell B7d.out 4).trans rfl, (blk_cell B8d.out 0).trans rfl, (blk_cell B8d.out 1).trans rfl, (blk_cell B8d.out 2).trans rfl, (blk_cell B8d.out 3).trans rfl, (blk_cell B8d.out 4).trans rfl, HRd.out.cHi⟩ (fun hHeld => ?_)
      clear hK K
      refine norm_ (a' := ?_) ?_ ?_
      rotate_left
      ·show Act.put _ (some 124) _ = _
       simp only [Act.put, sB, i64_w, i32_w]
       rfl
      refine pure_ (i := 39) (N := (some 129)) (v := ?_) (a' := ?_) #[true, true, true, true, true, true, true, true, true, true, true, true, true, true, true, true, true, true, true, true, true, true, true, true, true, true, true, true, true, true, true, true, true, true, true, true, true, true, true, true, false] rfl rfl (any_of HT_.out (by kernel_rfl)) (fun _ _ _ h => h) (Or.inl ⟨by rfl, ?_⟩) ?_ ?_
      rotate_left
      ·intro w'
       go_simp
       with_reducible rfl
      rotate_left
      ·simp only [Act.put, sB, i64_w, i32_w]
       rfl
      refine pure_ (i := 40) (N := (some 130)) (v := ?_) (a' := ?_) #[true, true, true, true, true, true, true, true, true, true, true, true, true, true, true, true, true, true, true, true, true, true, true, true, true, true, true, true, true, true, true, true, true, true, true, true, true, true, true, true, true] rfl rfl (any_of HT_.out (by kernel_rfl)) (fun _ _ _ h => h) (Or.inl ⟨by rfl, ?_⟩) ?_ ?_
      rotate_left
      ·intro w'
       go_simp
       with_reducible rfl
      rotate_left
      ·simp only [Act.put, sB, i64_w, i32_w]
       rfl
      refine done_ (done_of HT_.out (by kernel_rfl)) ?_
      clear hHeld
      rw [HHI2.out]
      have wi : wrap64 ((i : Int) + 1) = ((i + 1 : Nat) : Int) := by unfold wrap64; omega
      generalize T2.hi = hv
      cases hv with
      | false =>
       go_wp2
       go_roundw
       case rel => exact ⟨i + 1, T2, R2, by first | (rw [wi]) | rfl, ⟨by have := HII.out; omega⟩, HTd, HRd, HP2⟩
       case measure => first | (rw [wi]; exact Nat.sub_lt_sub_left HII.out (Nat.lt_succ_self i)) | exact Nat.sub_lt_sub_left HII.out (Nat.lt_succ_self i)
      | true =>
       go_wp2
       go_roundw
       case rel => exact ⟨i + 1, T2, R2, by first | (rw [wi]) | rfl, ⟨by have := HII.out; omega⟩, HTd, HRd, HP2⟩
       case measure => first | (rw [wi]; exact Nat.sub_lt_sub_left HII.out (Nat.lt_succ_self i)) | exact Nat.sub_lt_sub_left HII.out (Nat.lt_succ_self i)
     ·have q1 : decide ((i : Int) < (xs.length : Int)) = false := decide_eq_false (by omega)
      have q2 : decide (i < xs.length) = false := decide_eq_false hi
      have p2 : (i < xs.length) = False := eq_false hi
      clear hi
      go_wp2
      go_ret
      exact ⟨rfl, HR.out.fr⟩
   ·have HM := asd hm
    rw [if_neg hm] at hmade
    subst hmade
    have HB1 := asd (below_step HB3.out hb1)
    clear hb1 hm
    go_wp2_with fail
    refine (rnew_calls a0 c0 l w1 w HB1.out HR0.out H20.out).mono ?_
    rintro e w4 ⟨hmade, hb⟩
    unfold RMade at hmade
    rw [if_neg HM.out] at hmade
    subst hmade
    have HB4 := asd (below_step HB1.out hb)
    clear hb
    go_wp2
    go_loopw [7] (fun v7 wr => v7 = .int .i64 0 ∧ Aside0 (wr = w4)) (fun v _ => 0)
    case atStart => exact ⟨rfl, ⟨rfl⟩⟩
    case round =>
     obtain ⟨rfl, ⟨rfl⟩⟩ := hrel
     cases hx : decide ((0 : Int) < (xs.length : Int)) with
     | false =>
      have hx2 : decide (0 < xs.length) = false := by simpa using hx
      go_wp2
      go_ret
      exact ⟨rfl, HB4.out⟩
     | true =>
      have hx2 : decide (0 < xs.length) = true := by simpa using hx
      go_wp2
      go_ret
      exact ⟨rfl, HB4.out⟩
 ·
  have d0 : decide ((l.length : Int) > 20) = true := decide_eq_true (by omega)
  have d1 : decide (20 < (l.length : Int)) = true := d0
  have d2 : decide (20 < l.length) = true := decide_eq_true (by omega)
  clear h20
  go_enter Try.func8, Try.ntmps8
  go_wp2_with fail
  refine (tknows_calls _).mono ?_
  rintro e wk ⟨rfl, hb⟩
  have HBK := asd hb
  clear hb
  go_wp2
  go_ret
  exact ⟨rfl, HBK.out⟩
end Go.Proofs.Ytjekfipaadbbbaa.Fn
