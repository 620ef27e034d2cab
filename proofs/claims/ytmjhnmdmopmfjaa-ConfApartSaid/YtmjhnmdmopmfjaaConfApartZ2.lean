/- Part of the proof of ConfApart: see the last text. (Words laid by the print, as far as they are named here; walks written by a program of this project; plain laws.) -/
import Derived.Test.YtmjhnmdmopmfjaaConfApartZ1
namespace Go.Proofs.Ytmjhnmdmopmfjaa.Fn
open Go.RowKit Go.Proofs.YtmjhnmdmopmfjaaW.PrintWords Go.Proofs.YtmjhnmdmopmfjaaW.PrintLast Go.Proofs.YtmjhnmdmopmfjaaW.PrintMore
attribute [local go_sem] max2_int min2_int max_two min_two max_three min_three max_four min_four
set_option linter.unusedVariables false
set_option linter.unusedSimpArgs false
mutual
def parcloselaw03_Part.l0 : Nat → Int → List (S56) → List (S57) → List Int → Int → Int → Int → List (S51) → List Int → Int → Int → Int → Option ((List (S51)) × (List (S53)) × List Int × Int × Int × Int)
 | 0, _, _, _, _, _, _, _, _, _, _, _, _ => none
 | k + 1, x4, x131000, x131001, x131002, x131003, x131004, x131005, x139000, x139002, x139003, x139004, x139005 => if x4 < (x131000.length : Int) then (if 0 ≤ x4 then (if x139000.length < 2932031007402 then (parcloselaw03_Part.l0 k (wrap64 (x4 + 1)) x131000 x131001 x131002 x131003 x131004 x131005 (x139000 ++ [(⟨(rd_T56 x131000 x4).f0, (rd_T56 x131000 x4).f1, (rd_T56 x131000 x4).f2, (rd_T56 x131000 x4).f3, (rd_T56 x131000 x4).f4, (rd_T56 x131000 x4).f5⟩ : S51)]) x139002 x139003 x139004 x139005) else (none)) else (none)) else (parcloselaw03_Part.l1 k 0 x131000 x131001 x131002 x131003 x131004 x131005 x139000 ([] : List (S53)) x139002 x139003 x139004 x139005)
def parcloselaw03_Part.l1 : Nat → Int → List (S56) → List (S57) → List Int → Int → Int → Int → List (S51) → List (S53) → List Int → Int → Int → Int → Option ((List (S51)) × (List (S53)) × List Int × Int × Int × Int)
 | 0, _, _, _, _, _, _, _, _, _, _, _, _, _ => none
 | k + 1, x5, x131000, x131001, x131002, x131003, x131004, x131005, x139000, x139001, x139002, x139003, x139004, x139005 => if x5 < (x131001.length : Int) then (if 0 ≤ x5 then (if x139001.length < 5864062014805 then (parcloselaw03_Part.l1 k (wrap64 (x5 + 1)) x131000 x131001 x131002 x131003 x131004 x131005 x139000 (x139001 ++ [(⟨(rd_T57 x131001 x5).f0, (rd_T57 x131001 x5).f1, (rd_T57 x131001 x5).f2⟩ : S53)]) x139002 x139003 x139004 x139005) else (none)) else (none)) else (some (x139000, x139001, x139002, x139003, x139004, x139005))
end
def parcloselaw03_Part.f (k : Nat) (l0_0 : List (S56)) (l0_1 : List (S57)) (l0_2 : List Int) (a0_3 : Int) (a0_4 : Int) (a0_5 : Int) : Option ((List (S51)) × (List (S53)) × List Int × Int × Int × Int) := (some (([] : List Int) : List Int)).bind fun y132 => (if y132.length + l0_2.length < 17592186044416 then (parcloselaw03_Part.l0 k 0 l0_0 l0_1 l0_2 a0_3 a0_4 a0_5 ([] : List (S51)) (y132 ++ l0_2) a0_3 a0_4 a0_5) else (none))
def parcloselaw03_Part.T1 : Bool × List (List Nat × List Nat) := (true, [([], []), ([], []), ([1], [1]), ([0, 2], [0, 2]), ([], []), ([4], [4]), ([3, 5], [3, 5]), ([], []), ([7, 6, 3, 0, 1, 2, 3, 4, 5, 6, 7], [6, 7])])
def parcloselaw03_Part.B1 : List Nat := [0, 0, 2, 7, 0, 16, 63, 0, 255]
theorem parcloselaw03_Part.tab1 : rtab .any (opsOf Try.f31 1) = parcloselaw03_Part.T1 := by kernel_rfl
theorem parcloselaw03_Part.bits1 : waitsOk parcloselaw03_Part.T1.2 parcloselaw03_Part.B1 = true := by kernel_rfl
def parcloselaw03_Part.T5 : Bool × List (List Nat × List Nat) := (true, [([], []), ([0], [0]), ([], []), ([2], [2]), ([], []), ([3, 4], [3, 4]), ([5], [5]), ([6], [6]), ([1, 7], [1, 7]), ([0, 1, 2, 3, 4, 5, 6, 7, 8], []), ([9, 8, 8, 0, 1, 2, 3, 4, 5, 6, 7, 8], [8, 9])])
def parcloselaw03_Part.B5 : List Nat := [0, 1, 0, 4, 0, 28, 60, 124, 255, 511, 1023]
theorem parcloselaw03_Part.tab5 : rtab .any (opsOf Try.f31 5) = parcloselaw03_Part.T5 := by kernel_rfl
theorem parcloselaw03_Part.bits5 : waitsOk parcloselaw03_Part.T5.2 parcloselaw03_Part.B5 = true := by kernel_rfl
def parcloselaw03_Part.T9 : Bool × List (List Nat × List Nat) := (true, [([], []), ([0], [0]), ([], []), ([2], [2]), ([], []), ([3, 4], [3, 4]), ([5], [5]), ([6], [6]), ([1, 7], [1, 7]), ([0, 1, 2, 3, 4, 5, 6, 7, 8], []), ([9, 8, 8, 0, 1, 2, 3, 4, 5, 6, 7, 8], [8, 9])])
def parcloselaw03_Part.B9 : List Nat := [0, 1, 0, 4, 0, 28, 60, 124, 255, 511, 1023]
theorem parcloselaw03_Part.tab9 : rtab .any (opsOf Try.f31 9) = parcloselaw03_Part.T9 := by kernel_rfl
theorem parcloselaw03_Part.bits9 : waitsOk parcloselaw03_Part.T9.2 parcloselaw03_Part.B9 = true := by kernel_rfl
set_option maxHeartbeats 8000000 in
set_option maxRecDepth 100000 in
theorem parcloselaw03_Part.calls (k : Nat) (A0_0 : Option Addr) (c0_0 : Nat) (l0_0 : List (S56)) (A0_1 : Option Addr) (c0_1 : Nat) (l0_1 : List (S57)) (A0_2 : Option Addr) (c0_2 : Nat) (l0_2 : List Int) (a0_3 : Int) (a0_4 : Int) (a0_5 : Int) (r1 : List (S51)) (r2 : List (S53)) (r3 : List Int) (r4 : Int) (r5 : Int) (r6 : Int) (w : World) (hr0_0 : Kd.C k56 w A0_0 l0_0.length l0_0) (hc0_0 : l0_0.length ≤ c0_0) (hr0_1 : Kd.C k57 w A0_1 l0_1.length l0_1) (hc0_1 : l0_1.length ≤ c0_1) (hr0_2 : Kd.C (Kd.int .i64) w A0_2 l0_2.length l0_2) (hc0_2 : l0_2.length ≤ c0_2) (h : parcloselaw03_Part.f k l0_0 l0_1 l0_2 a0_3 a0_4 a0_5 = some (r1, r2, r3, r4, r5, r6)) :
  Calls Try.prog 31 #[.agg #[.slice A0_0 l0_0.length c0_0, .slice A0_1 l0_1.length c0_1, .slice A0_2 l0_2.length c0_2, .int .u8 a0_3, .int .u8 a0_4, .int .u8 a0_5]] w fun e w' => ∃ v0_ v1_ v2_ : Value, e = .returned (.agg #[v0_, v1_, v2_, .int .u8 r4, .int .u8 r5, .int .u8 r6]) ∧ Kd.R k51 51 w' w.heap.size (fun _ => True) v0_ r1 ∧ Kd.R k53 53 w' w.heap.size (fun _ => True) v1_ r2 ∧ Kd.R (Kd.int .i64) 3 w' w.heap.size (fun _ => True) v2_ r3 ∧ Below w.heap.size w w' := by
 have hu61 := Try.underlying61
 have hu49 := Try.underlying49
 have hu47 := Try.underlying47
 have hu56 := Try.underlying56
 have hu57 := Try.underlying57
 have HR0_0 := asd hr0_0
 have HC0_0 := asd hc0_0
 clear hr0_0 hc0_0
 have HR0_1 := asd hr0_1
 have HC0_1 := asd hc0_1
 clear hr0_1 hc0_1
 have HR0_2 := asd hr0_2
 have HC0_2 := asd hc0_2
 clear hr0_2 hc0_2
 have HB := asd (Below.refl w.heap.size w)
 have H : ((some (([] : List Int) : List Int)).bind fun y132 => (if y132.length + l0_2.length < 17592186044416 then (parcloselaw03_Part.l0 k 0 l0_0 l0_1 l0_2 a0_3 a0_4 a0_5 ([] : List (S51)) (y132 ++ l0_2) a0_3 a0_4 a0_5) else (none))) = some (r1, r2, r3, r4, r5, r6) := h
 clear h
 obtain ⟨y132, hy132⟩ : ∃ y_ : List Int, y_ = (([] : List Int)) := ⟨_, rfl⟩
 replace H : (if y132.length + l0_2.length < 17592186044416 then (parcloselaw03_Part.l0 k 0 l0_0 l0_1 l0_2 a0_3 a0_4 a0_5 ([] : List (S51)) (y132 ++ l0_2) a0_3 a0_4 a0_5) else (none)) = some (r1, r2, r3, r4, r5, r6) := by first | (rw [hy132]; with_reducible exact H) | (have H2_ := (Option.bind_some _ _).symm.trans H; rw [hy132]; with_reducible exact H2_) | (have H2_ := (Option.bind_some _ _).symm.trans H; with_reducible exact H2_) | with_reducible exact H | (rw [hy132]; exact H) | exact H
 have Ny132 := asd hy132
 clear hy132
 by_cases c2 : y132.length + l0_2.length < 17592186044416
 ·rw [if_pos c2] at H
  have LMc2 := asd c2
  clear c2
  obtain ⟨y135, hy135⟩ : ∃ y_ : List Int, y_ = (y132 ++ l0_2) := ⟨_, rfl⟩
  replace H : (parcloselaw03_Part.l0 k 0 l0_0 l0_1 l0_2 a0_3 a0_4 a0_5 ([] : List (S51)) y135 a0_3 a0_4 a0_5) = some (r1, r2, r3, r4, r5, r6) := by first | (rw [hy135]; with_reducible exact H) | (have H2_ := (Option.bind_some _ _).symm.trans H; rw [hy135]; with_reducible exact H2_) | (have H2_ := (Option.bind_some _ _).symm.trans H; with_reducible exact H2_) | with_reducible exact H | (rw [hy135]; exact H) | exact H
  have Ny135 := asd hy135
  clear hy135
  have H' := asd H
  clear H
  go_enter Try.func31, Try.ntmps31
  try go_wp2_with (first | ((with_reducible refine gate_dst (N := 1) rfl ?_); refine box_event ?hg (N := 1) ?hd (cs := #[.slice A0_0 l0_0.length c0_0, .slice A0_1 l0_1.length c0_1, .slice A0_2 l0_2.length c0_2, .int .u8 a0_3, .int .u8 a0_4, .int .u8 a0_5]) (t := 61) ?hr ?_; (case hd => rfl); (case hg => rfl); (case hr => first | (go_simp; done) | (go_simp; rfl)); intro gb130 hg w3 hbox hb; have n0_ := asd (below_step (by repeat (first | (with_reducible first | exact HB.out | apply wa | apply wn | apply wd) | exact HB.out)) hb); have n1_ := asd (hbox); have n2_ := asd ((by rw [hg]; exact (below_size (by repeat (first | (with_reducible first | exact HB.out | apply wa | apply wn | apply wd) | exact HB.out))) : w.heap.size ≤ gb130)); have n3_ := asd ((by rw [hg]; exact (below_size (by repeat (first | (with_reducible first | exact HB.out | apply wa | apply wn | apply wd) | exact HB.out))) : w.heap.size ≤ gb130)); clear HB; have HB := n0_; have BK130 := n1_; have GW130 := n2_; have GE130 := n3_; clear n0_ n1_ n2_ n3_; clear hb hbox hg) | ((with_reducible refine gate_dst (N := 2) rfl ?_); refine box_event ?hg (N := 2) ?hd (cs := #[.slice none 0 0, .slice none 0 0, .slice none 0 0, .int .u8 0, .int .u8 0, .int .u8 0]) (t := 49) ?hr ?_; (case hd => rfl); (case hg => rfl); (case hr => first | (go_simp; done) | (go_simp; rfl)); intro gb131 hg w4 hbox hb; have n0_ := asd (blk_below (g := gb130) (o := .cells #[.slice A0_0 l0_0.length c0_0, .slice A0_1 l0_1.length c0_1, .slice A0_2 l0_2.length c0_2, .int .u8 a0_3, .int .u8 a0_4, .int .u8 a0_5] 61 (0, 0)) (by (with_reducible repeat first | apply bn | apply bd | apply ba); exact BK130.out) hb); have n1_ := asd (below_step (by repeat (first | (with_reducible first | exact HB.out | apply wa | apply wn | apply wd | refine ws ?_ GE130.out) | exact HB.out)) hb); have n2_ := asd (hbox); have n3_ := asd ((by rw [hg]; exact (below_size (by repeat (first | (with_reducible first | exact HB.out | apply wa | apply wn | apply wd | refine ws ?_ GE130.out) | exact HB.out))) : w.heap.size ≤ gb131)); have n4_ := asd ((by rw [hg]; exact (below_size (by repeat (first | (with_reducible first | exact HB.out | apply wa | apply wn | apply wd | refine ws ?_ GE130.out) | exact HB.out))) : w.heap.size ≤ gb131)); have n5_ := asd ((by rw [hg]; exact Nat.ne_of_lt (blk_lt (g := gb130) (o := .cells #[.slice A0_0 l0_0.length c0_0, .slice A0_1 l0_1.length c0_1, .slice A0_2 l0_2.length c0_2, .int .u8 a0_3, .int .u8 a0_4, .int .u8 a0_5] 61 (0, 0)) (by (with_reducible repeat first | apply bn | apply bd | apply ba); exact BK130.out)) : gb130 ≠ gb131)); have n6_ := asd ((by rw [hg]; exact Nat.ne_of_gt (blk_lt (g := gb130) (o := .cells #[.slice A0_0 l0_0.length c0_0, .slice A0_1 l0_1.length c0_1, .slice A0_2 l0_2.length c0_2, .int .u8 a0_3, .int .u8 a0_4, .int .u8 a0_5] 61 (0, 0)) (by (with_reducible repeat first | apply bn | apply bd | apply ba); exact BK130.out)) : gb131 ≠ gb130)); clear BK130; clear HB; have BK130 := n0_; have HB := n1_; have BK131 := n2_; have GW131 := n3_; have GE131 := n4_; have NB130_131 := n5_; have NB131_130 := n6_; clear n0_ n1_ n2_ n3_ n4_ n5_ n6_; clear hb hbox hg))
  have n0_ := asd (blk_drew BK130.out)
  have n1_ := asd (blk_drew BK131.out)
  have n2_ := asd (below_drew1 HB.out)
  clear BK130
  clear BK131
  clear HB
  have BK130 := n0_
  have BK131 := n1_
  have HB := n2_
  clear n0_ n1_ n2_
  refine start_ (n := 9) (S := fun w' => w'.cell? ⟨gb130, 0, none⟩ = some (.slice A0_0 l0_0.length c0_0) ∧ w'.cell? ⟨gb130, 1, none⟩ = some (.slice A0_1 l0_1.length c0_1) ∧ w'.cell? ⟨gb130, 2, none⟩ = some (.slice A0_2 l0_2.length c0_2) ∧ w'.cell? ⟨gb130, 3, none⟩ = some (.int .u8 a0_3) ∧ w'.cell? ⟨gb130, 4, none⟩ = some (.int .u8 a0_4) ∧ w'.cell? ⟨gb130, 5, none⟩ = some (.int .u8 a0_5)) (ds := []) #[false, false, false, false, false, false, false, false, false] (by kernel_rfl) rfl rfl ⟨(blk_cell BK130.out 0).trans rfl, (blk_cell BK130.out 1).trans rfl, (blk_cell BK130.out 2).trans rfl, (blk_cell BK130.out 3).trans rfl, (blk_cell BK130.out 4).trans rfl, (blk_cell BK130.out 5).trans rfl⟩ (fun hHeld => ?_); refine with_tabW parcloselaw03_Part.tab1 parcloselaw03_Part.bits1 (fun HT_ HW_ => ?_)
  generalize w4.drew = w5 at BK130 BK131 HB hHeld ⊢
  refine pure_ (i := 1) (N := some 7) (v := ?_) (a' := ?_) #[false, true, false, false, false, false, false, false, false] rfl rfl (any_of HT_.out (by kernel_rfl)) (fun _ _ _ h => h) (Or.inl ⟨by rfl, ?_⟩) ?_ ?_
  rotate_left
  ·intro w'
   go_simp
   with_reducible rfl
  rotate_left
  ·simp only [Act.put, sB, i64_w, i32_w]
   rfl
  refine pure_ (i := 4) (N := some 10) (v := ?_) (a' := ?_) #[false, true, false, false, true, false, false, false, false] rfl rfl (any_of HT_.out (by kernel_rfl)) (fun _ _ _ h => h) (Or.inl ⟨by rfl, ?_⟩) ?_ ?_
  rotate_left
  ·intro w'
   go_simp
   with_reducible rfl
  rotate_left
  ·simp only [Act.put, sB, i64_w, i32_w]
   rfl
  refine take_ (i := 2) (N := some 8) (v := ?_) (a' := ?_) #[false, true, true, false, true, false, false, false, false] rfl rfl (take_ofW HT_.out HW_.out (by kernel_rfl)) (fun _ _ _ h => h) (Or.inl ⟨by rfl, ?_⟩) hHeld ?_ ?_
  rotate_left
  ·rintro w' ⟨s0, s1, s2, s3, s4, s5⟩
   go_simp
   with_reducible rfl
  rotate_left
  ·simp only [Act.put, sB, i64_w, i32_w]
   rfl
  refine take_ (i := 5) (N := some 11) (v := ?_) (a' := ?_) #[false, true, true, false, true, true, false, false, false] rfl rfl (take_ofW HT_.out HW_.out (by kernel_rfl)) (fun _ _ _ h => h) (Or.inl ⟨by rfl, ?_⟩) hHeld ?_ ?_
  rotate_left
  ·rintro w' ⟨s0, s1, s2, s3, s4, s5⟩
   go_simp
   with_reducible rfl
  rotate_left
  ·simp only [Act.put, sB, i64_w, i32_w]
   rfl
  refine join_ (σ := Value × Value × Nat) 1 #[true, true, true, true, true, true, true, true, false] (fun s_ => [(6, s_.1), (9, s_.2.1), (3, .pointer (some ⟨s_.2.2, 0, none⟩)), (12, .agg #[.slice none 0 0, .slice none 0 0, s_.2.1, .int .u8 a0_3, .int .u8 a0_4, .int .u8 a0_5])]) (fun s_ w' => (w'.cell? ⟨gb130, 0, none⟩ = some (.slice A0_0 l0_0.length c0_0) ∧ w'.cell? ⟨gb130, 1, none⟩ = some (.slice A0_1 l0_1.length c0_1) ∧ w'.cell? ⟨gb130, 2, none⟩ = some (.slice A0_2 l0_2.length c0_2) ∧ w'.cell? ⟨gb130, 3, none⟩ = some (.int .u8 a0_3) ∧ w'.cell? ⟨gb130, 4, none⟩ = some (.int .u8 a0_4) ∧ w'.cell? ⟨gb130, 5, none⟩ = some (.int .u8 a0_5)) ∧ (Kd.R (Kd.int .i64) 3 w' w.heap.size (fun _ => True) s_.2.1 y135) ∧ (w'.heap[gb130]? = some (.cells #[.slice A0_0 l0_0.length c0_0, .slice A0_1 l0_1.length c0_1, .slice A0_2 l0_2.length c0_2, .int .u8 a0_3, .int .u8 a0_4, .int .u8 a0_5] 61 (0, 0))) ∧ (w'.heap[gb131]? = some (.cells #[.slice none 0 0, .slice none 0 0, .slice none 0 0, .int .u8 0, .int .u8 0, .int .u8 0] 49 (0, 0))) ∧ (w'.heap[s_.2.2]? = some (.cells #[.slice none 0 0, .slice none 0 0, .slice none 0 0, .int .u8 0, .int .u8 0, .int .u8 0] 49 (0, 0))) ∧ (w.heap.size ≤ s_.2.2) ∧ (w.heap.size ≤ s_.2.2) ∧ (gb130 ≠ s_.2.2) ∧ (s_.2.2 ≠ gb130) ∧ (gb131 ≠ s_.2.2) ∧ (s_.2.2 ≠ gb131) ∧ (Below w.heap.size w w')) ?_ ?_
  rotate_left
  ·intro hCont
   refine two_ (i := 0) (j := 7) (Ni := some 6) (Nj := some 3) #[true, true, true, false, true, true, false, false, false] #[false, true, true, false, true, true, false, true, false] rfl rfl rfl rfl (two_of HT_.out (by kernel_rfl)) (by decide) (by decide) (fun K hK => ?_) (fun K hK => ?_)
   ·skip
    refine Kd.R_lit_step (Kd.int .i64) _ 3 ?hg (N := 6) ?hd (xs := ([] : List Int)) (inner := []) (ok := fun _ => True) (okp := fun _ => True) ?hr ?hp (fun _ hk => hk) trivial (Below.refl _ _) (Nat.le_refl _) (by simp) ?_; (case hd => rfl); (case hg => rfl); (case hr => first | (go_simp; done) | (go_simp; rfl)); (case hp => exact (Reps.none _ _))
    intro v133 w6 ho7 hb hg_ hnew_
    clear hg_ hnew_
    (first | rw [← Ny132.out] at ho7 | (simp only [Int.reduceToNat] at ho7; rw [← Ny132.out] at ho7))
    have n0_ := asd (Kd.R_lower ho7 (below_size (by repeat (first | (with_reducible first | exact HB.out | apply wa | apply wn | apply wd | refine ws ?_ GE130.out | refine ws ?_ GE131.out) | exact HB.out))))
    have n1_ := asd (blk_below (g := gb130) (o := .cells #[.slice A0_0 l0_0.length c0_0, .slice A0_1 l0_1.length c0_1, .slice A0_2 l0_2.length c0_2, .int .u8 a0_3, .int .u8 a0_4, .int .u8 a0_5] 61 (0, 0)) (by (with_reducible repeat first | apply bn | apply bd | apply ba); exact BK130.out) hb)
    have n2_ := asd (blk_below (g := gb131) (o := .cells #[.slice none 0 0, .slice none 0 0, .slice none 0 0, .int .u8 0, .int .u8 0, .int .u8 0] 49 (0, 0)) (by (with_reducible repeat first | apply bn | apply bd | apply ba); exact BK131.out) hb)
    have n3_ := asd (below_step (by repeat (first | (with_reducible first | exact HB.out | apply wa | apply wn | apply wd | refine ws ?_ GE130.out | refine ws ?_ GE131.out) | exact HB.out)) hb)
    clear BK130
    clear BK131
    clear HB
    have HO134 := n0_
    have BK130 := n1_
    have BK131 := n2_
    have HB := n3_
    clear n0_ n1_ n2_ n3_
    clear hb ho7
    refine hK.out _ _ ⟨(blk_cell BK130.out 0).trans rfl, (blk_cell BK130.out 1).trans rfl, (blk_cell BK130.out 2).trans rfl, (blk_cell BK130.out 3).trans rfl, (blk_cell BK130.out 4).trans rfl, (blk_cell BK130.out 5).trans rfl⟩ (fun hHeld => ?_)
    clear hK K
    refine norm_ (a' := ?_) ?_ ?_
    rotate_left
    ·show Act.put _ (some 6) _ = _
     simp only [Act.put, sB, i64_w, i32_w]
     rfl
    refine two_ (i := 3) (j := 7) (Ni := some 9) (Nj := some 3) #[true, true, true, true, true, true, false, false, false] #[true, true, true, false, true, true, false, true, false] rfl rfl rfl rfl (two_of HT_.out (by kernel_rfl)) (by decide) (by decide) (fun K hK => ?_) (fun K hK => ?_)
    ·skip
     refine Kd.R_append_rows_step (Kd.int .i64) (w0 := w) w.heap.size (by rfl) (.tmp 6) (.tmp 8) 27 3 (.int .i64 0) 8 rfl Try.underlying27 info3 rfl (by decide) (by omega) v133 y132 l0_2 _ _ _ (fun _ => True) (fun _ => False) rfl rfl ?aO ?aR (fun _ _ h => h) (fun _ h => h.elim) ?aF ?aB ?aS ?aL ?_
     (case aR => repeat (first | exact (Kd.C_below HR0_2.out HB.out) | (with_reducible refine Kd.C_alloc ?_ _) | (with_reducible refine Kd.C_drewN ?_ _) | (with_reducible refine Kd.C_drew ?_)))
     (case aB => exact (by repeat (first | (with_reducible first | exact HB.out | apply wa | apply wn | apply wd | refine ws ?_ GE130.out | refine ws ?_ GE131.out) | exact HB.out)))
     (case aF => exact (fun _ _ => trivial))
     (case aO => exact (by (with_reducible repeat (first | apply Kd.R_alloc | apply Kd.R_drewN | apply Kd.R_drew)); exact HO134.out))
     (case aS => exact (below_size (by repeat (first | (with_reducible first | exact HB.out | apply wa | apply wn | apply wd | refine ws ?_ GE130.out | refine ws ?_ GE131.out) | exact HB.out))))
     (case aL => have := LMc2.out; omega)
     intro v136 w8 ho hb hg hat
     rw [← Ny135.out] at ho
     have n0_ := asd (blk_grown (g := gb130) (o := .cells #[.slice A0_0 l0_0.length c0_0, .slice A0_1 l0_1.length c0_1, .slice A0_2 l0_2.length c0_2, .int .u8 a0_3, .int .u8 a0_4, .int .u8 a0_5] 61 (0, 0)) (by (with_reducible repeat first | apply bn | apply bd | apply ba); exact BK130.out) hg (Kd.R_ne HO134.out BK130.out (by decide)))
     have n1_ := asd (blk_grown (g := gb131) (o := .cells #[.slice none 0 0, .slice none 0 0, .slice none 0 0, .int .u8 0, .int .u8 0, .int .u8 0] 49 (0, 0)) (by (with_reducible repeat first | apply bn | apply bd | apply ba); exact BK131.out) hg (Kd.R_ne HO134.out BK131.out (by decide)))
     have n2_ := asd (hb)
     have n3_ := asd (ho)
     clear BK130
     clear BK131
     clear HB
     clear HO134
     have BK130 := n0_
     have BK131 := n1_
     have HB := n2_
     have HO137 := n3_
     clear n0_ n1_ n2_ n3_
     clear ho hb hg hat
     obtain ⟨Ao9, co9, eo9⟩ := Kd.R_slice HO137.out
     (first | subst eo9 | (injection eo9 with f1_ f2_ f3_; have f4_ := f1_.symm; have f5_ := f3_.symm; clear f1_ f2_ f3_; subst f4_; subst f5_))
     refine hK.out _ _ ⟨(blk_cell BK130.out 0).trans rfl, (blk_cell BK130.out 1).trans rfl, (blk_cell BK130.out 2).trans rfl, (blk_cell BK130.out 3).trans rfl, (blk_cell BK130.out 4).trans rfl, (blk_cell BK130.out 5).trans rfl⟩ (fun hHeld => ?_)
     clear hK K
     refine norm_ (a' := ?_) ?_ ?_
     rotate_left
     ·show Act.put _ (some 9) _ = _
      simp only [Act.put, sB, i64_w, i32_w]
      rfl
     refine pure_ (i := 6) (N := some 12) (v := ?_) (a' := ?_) #[true, true, true, true, true, true, true, false, false] rfl rfl (any_of HT_.out (by kernel_rfl)) (fun _ _ _ h => h) (Or.inl ⟨by rfl, ?_⟩) ?_ ?_
     rotate_left
     ·intro w'
      go_simp
      with_reducible rfl
     rotate_left
     ·simp only [Act.put, sB, i64_w, i32_w]
      rfl
     refine one_ (i := 7) (N := some 3) #[true, true, true, true, true, true, true, true, false] rfl rfl (one_of HT_.out (by kernel_rfl)) (by decide) (fun K hK => ?_)
     refine box_step ?hg (N := 3) ?hd (cs := #[.slice none 0 0, .slice none 0 0, .slice none 0 0, .int .u8 0, .int .u8 0, .int .u8 0]) (t := 49) ?hr ?_; (case hd => rfl); (case hg => rfl); (case hr => first | (go_simp; done) | (go_simp; rfl))
     intro gb138 hg w10 hbox hb
     have n0_ := asd (Kd.R_below (by (with_reducible repeat (first | apply Kd.R_alloc | apply Kd.R_drewN | apply Kd.R_drew)); exact HO137.out) hb)
     have n1_ := asd (blk_below (g := gb130) (o := .cells #[.slice A0_0 l0_0.length c0_0, .slice A0_1 l0_1.length c0_1, .slice A0_2 l0_2.length c0_2, .int .u8 a0_3, .int .u8 a0_4, .int .u8 a0_5] 61 (0, 0)) (by (with_reducible repeat first | apply bn | apply bd | apply ba); exact BK130.out) hb)
     have n2_ := asd (blk_below (g := gb131) (o := .cells #[.slice none 0 0, .slice none 0 0, .slice none 0 0, .int .u8 0, .int .u8 0, .int .u8 0] 49 (0, 0)) (by (with_reducible repeat first | apply bn | apply bd | apply ba); exact BK131.out) hb)
     have n3_ := asd (below_step (by repeat (first | (with_reducible first | exact HB.out | apply wa | apply wn | apply wd | refine ws ?_ GE130.out | refine ws ?_ GE131.out) | exact HB.out)) hb)
     have n4_ := asd (hbox)
     have n5_ := asd ((by rw [hg]; exact (below_size (by repeat (first | (with_reducible first | exact HB.out | apply wa | apply wn | apply wd | refine ws ?_ GE130.out | refine ws ?_ GE131.out) | exact HB.out))) : w.heap.size ≤ gb138))
     have n6_ := asd ((by rw [hg]; exact (below_size (by repeat (first | (with_reducible first | exact HB.out | apply wa | apply wn | apply wd | refine ws ?_ GE130.out | refine ws ?_ GE131.out) | exact HB.out))) : w.heap.size ≤ gb138))
     have n7_ := asd ((by rw [hg]; exact Nat.ne_of_lt (blk_lt (g := gb130) (o := .cells #[.slice A0_0 l0_0.length c0_0, .slice A0_1 l0_1.length c0_1, .slice A0_2 l0_2.length c0_2, .int .u8 a0_3, .int .u8 a0_4, .int .u8 a0_5] 61 (0, 0)) (by (with_reducible repeat first | apply bn | apply bd | apply ba); exact BK130.out)) : gb130 ≠ gb138))
     have n8_ := asd ((by rw [hg]; exact Nat.ne_of_gt (blk_lt (g := gb130) (o := .cells #[.slice A0_0 l0_0.length c0_0, .slice A0_1 l0_1.length c0_1, .slice A0_2 l0_2.length c0_2, .int .u8 a0_3, .int .u8 a0_4, .int .u8 a0_5] 61 (0, 0)) (by (with_reducible repeat first | apply bn | apply bd | apply ba); exact BK130.out)) : gb138 ≠ gb130))
     have n9_ := asd ((by rw [hg]; exact Nat.ne_of_lt (blk_lt (g := gb131) (o := .cells #[.slice none 0 0, .slice none 0 0, .slice none 0 0, .int .u8 0, .int .u8 0, .int .u8 0] 49 (0, 0)) (by (with_reducible repeat first | apply bn | apply bd | apply ba); exact BK131.out)) : gb131 ≠ gb138))
     have n10_ := asd ((by rw [hg]; exact Nat.ne_of_gt (blk_lt (g := gb131) (o := .cells #[.slice none 0 0, .slice none 0 0, .slice none 0 0, .int .u8 0, .int .u8 0, .int .u8 0] 49 (0, 0)) (by (with_reducible repeat first | apply bn | apply bd | apply ba); exact BK131.out)) : gb138 ≠ gb131))
     clear HO137
     clear BK130
     clear BK131
     clear HB
     have HO137 := n0_
     have BK130 := n1_
     have BK131 := n2_
     have HB := n3_
     have BK138 := n4_
     have GW138 := n5_
     have GE138 := n6_
     have NB130_138 := n7_
     have NB138_130 := n8_
     have NB131_138 := n9_
     have NB138_131 := n10_
     clear n0_ n1_ n2_ n3_ n4_ n5_ n6_ n7_ n8_ n9_ n10_
     clear hb hbox hg
     refine hK.out _ _ ⟨(blk_cell BK130.out 0).trans rfl, (blk_cell BK130.out 1).trans rfl, (blk_cell BK130.out 2).trans rfl, (blk_cell BK130.out 3).trans rfl, (blk_cell BK130.out 4).trans rfl, (blk_cell BK130.out 5).trans rfl⟩ (fun hHeld => ?_)
     clear hK K
     refine norm_ (a' := ?_) ?_ ?_
     rotate_left
     ·show Act.put _ (some 3) _ = _
      simp only [Act.put, sB, i64_w, i32_w]
      rfl
     exact norm_ (by simp only [putAll, Act.put, sB]) (hCont (v133, .slice Ao9 y135.length co9, gb138) _ ⟨hHeld, (by (with_reducible repeat (first | apply Kd.R_alloc | apply Kd.R_drewN | apply Kd.R_drew)); exact HO137.out), (by (with_reducible repeat first | apply bn | apply bd | apply ba); exact BK130.out), (by (with_reducible repeat first | apply bn | apply bd | apply ba); exact BK131.out), (by (with_reducible repeat first | apply bn | apply bd | apply ba); exact BK138.out), GW138.out, GE138.out, NB130_138.out, NB138_130.out, NB131_138.out, NB138_131.out, (by repeat (first | (with_reducible first | exact HB.out | apply wa | apply wn | apply wd | refine ws ?_ GE130.out | refine ws ?_ GE131.out | refine ws ?_ GE138.out) | exact HB.out))⟩)
    ·skip
     refine box_step ?hg (N := 3) ?hd (cs := #[.slice none 0 0, .slice none 0 0, .slice none 0 0, .int .u8 0, .int .u8 0, .int .u8 0]) (t := 49) ?hr ?_; (case hd => rfl); (case hg => rfl); (case hr => first | (go_simp; done) | (go_simp; rfl))
     intro gb138 hg w8 hbox hb
     have n0_ := asd (Kd.R_below (by (with_reducible repeat (first | apply Kd.R_alloc | apply Kd.R_drewN | apply Kd.R_drew)); exact HO134.out) hb)
     have n1_ := asd (blk_below (g := gb130) (o := .cells #[.slice A0_0 l0_0.length c0_0, .slice A0_1 l0_1.length c0_1, .slice A0_2 l0_2.length c0_2, .int .u8 a0_3, .int .u8 a0_4, .int .u8 a0_5] 61 (0, 0)) (by (with_reducible repeat first | apply bn | apply bd | apply ba); exact BK130.out) hb)
     have n2_ := asd (blk_below (g := gb131) (o := .cells #[.slice none 0 0, .slice none 0 0, .slice none 0 0, .int .u8 0, .int .u8 0, .int .u8 0] 49 (0, 0)) (by (with_reducible repeat first | apply bn | apply bd | apply ba); exact BK131.out) hb)
     have n3_ := asd (below_step (by repeat (first | (with_reducible first | exact HB.out | apply wa | apply wn | apply wd | refine ws ?_ GE130.out | refine ws ?_ GE131.out) | exact HB.out)) hb)
     have n4_ := asd (hbox)
     have n5_ := asd ((by rw [hg]; exact (below_size (by repeat (first | (with_reducible first | exact HB.out | apply wa | apply wn | apply wd | refine ws ?_ GE130.out | refine ws ?_ GE131.out) | exact HB.out))) : w.heap.size ≤ gb138))
     have n6_ := asd ((by rw [hg]; exact (below_size (by repeat (first | (with_reducible first | exact HB.out | apply wa | apply wn | apply wd | refine ws ?_ GE130.out | refine ws ?_ GE131.out) | exact HB.out))) : w.heap.size ≤ gb138))
     have n7_ := asd ((by rw [hg]; exact Nat.ne_of_lt (blk_lt (g := gb130) (o := .cells #[.slice A0_0 l0_0.length c0_0, .slice A0_1 l0_1.length c0_1, .slice A0_2 l0_2.length c0_2, .int .u8 a0_3, .int .u8 a0_4, .int .u8 a0_5] 61 (0, 0)) (by (with_reducible repeat first | apply bn | apply bd | apply ba); exact BK130.out)) : gb130 ≠ gb138))
     have n8_ := asd ((by rw [hg]; exact Nat.ne_of_gt (blk_lt (g := gb130) (o := .cells #[.slice A0_0 l0_0.length c0_0, .slice A0_1 l0_1.length c0_1, .slice A0_2 l0_2.length c0_2, .int .u8 a0_3, .int .u8 a0_4, .int .u8 a0_5] 61 (0, 0)) (by (with_reducible repeat first | apply bn | apply bd | apply ba); exact BK130.out)) : gb138 ≠ gb130))
     have n9_ := asd ((by rw [hg]; exact Nat.ne_of_lt (blk_lt (g := gb131) (o := .cells #[.slice none 0 0, .slice none 0 0, .slice none 0 0, .int .u8 0, .int .u8 0, .int .u8 0] 49 (0, 0)) (by (with_reducible repeat first | apply bn | apply bd | apply ba); exact BK131.out)) : gb131 ≠ gb138))
     have n10_ := asd ((by rw [hg]; exact Nat.ne_of_gt (blk_lt (g := gb131) (o := .cells #[.slice none 0 0, .slice none 0 0, .slice none 0 0, .int .u8 0, .int .u8 0, .int .u8 0] 49 (0, 0)) (by (with_reducible repeat first | apply bn | apply bd | apply ba); exact BK131.out)) : gb138 ≠ gb131))
     clear HO134
     clear BK130
     clear BK131
     clear HB
     have HO134 := n0_
     have BK130 := n1_
     have BK131 := n2_
     have HB := n3_
     have BK138 := n4_
     have GW138 := n5_
     have GE138 := n6_
     have NB130_138 := n7_
     have NB138_130 := n8_
     have NB131_138 := n9_
     have NB138_131 := n10_
     clear n0_ n1_ n2_ n3_ n4_ n5_ n6_ n7_ n8_ n9_ n10_
     clear hb hbox hg
     refine hK.out _ _ ⟨(blk_cell BK130.out 0).trans rfl, (blk_cell BK130.out 1).trans rfl, (blk_cell BK130.out 2).trans rfl, (blk_cell BK130.out 3).trans rfl, (blk_cell BK130.out 4).trans rfl, (blk_cell BK130.out 5).trans rfl⟩ (fun hHeld => ?_)
     clear hK K
     refine norm_ (a' := ?_) ?_ ?_
     rotate_left
     ·show Act.put _ (some 3) _ = _
      simp only [Act.put, sB, i64_w, i32_w]
      rfl
     refine one_ (i := 3) (N := some 9) #[true, true, true, true, true, true, false, true, false] rfl rfl (one_of HT_.out (by kernel_rfl)) (by decide) (fun K hK => ?_)
     refine Kd.R_append_rows_step (Kd.int .i64) (w0 := w) w.heap.size (by rfl) (.tmp 6) (.tmp 8) 27 3 (.int .i64 0) 8 rfl Try.underlying27 info3 rfl (by decide) (by omega) v133 y132 l0_2 _ _ _ (fun _ => True) (fun _ => False) rfl rfl ?aO ?aR (fun _ _ h => h) (fun _ h => h.elim) ?aF ?aB ?aS ?aL ?_
     (case aR => repeat (first | exact (Kd.C_below HR0_2.out HB.out) | (with_reducible refine Kd.C_alloc ?_ _) | (with_reducible refine Kd.C_drewN ?_ _) | (with_reducible refine Kd.C_drew ?_)))
     (case aB => exact (by repeat (first | (with_reducible first | exact HB.out | apply wa | apply wn | apply wd | refine ws ?_ GE130.out | refine ws ?_ GE131.out | refine ws ?_ GE138.out) | exact HB.out)))
     (case aF => exact (fun _ _ => trivial))
     (case aO => exact (by (with_reducible repeat (first | apply Kd.R_alloc | apply Kd.R_drewN | apply Kd.R_drew)); exact HO134.out))
     (case aS => exact (below_size (by repeat (first | (with_reducible first | exact HB.out | apply wa | apply wn | apply wd | refine ws ?_ GE130.out | refine ws ?_ GE131.out | refine ws ?_ GE138.out) | exact HB.out))))
     (case aL => have := LMc2.out; omega)
     intro v136 w9 ho hb hg hat
     rw [← Ny135.out] at ho
     have n0_ := asd (blk_grown (g := gb130) (o := .cells #[.slice A0_0 l0_0.length c0_0, .slice A0_1 l0_1.length c0_1, .slice A0_2 l0_2.length c0_2, .int .u8 a0_3, .int .u8 a0_4, .int .u8 a0_5] 61 (0, 0)) (by (with_reducible repeat first | apply bn | apply bd | apply ba); exact BK130.out) hg (Kd.R_ne HO134.out BK130.out (by decide)))
     have n1_ := asd (blk_grown (g := gb131) (o := .cells #[.slice none 0 0, .slice none 0 0, .slice none 0 0, .int .u8 0, .int .u8 0, .int .u8 0] 49 (0, 0)) (by (with_reducible repeat first | apply bn | apply bd | apply ba); exact BK131.out) hg (Kd.R_ne HO134.out BK131.out (by decide)))
     have n2_ := asd (blk_grown (g := gb138) (o := .cells #[.slice none 0 0, .slice none 0 0, .slice none 0 0, .int .u8 0, .int .u8 0, .int .u8 0] 49 (0, 0)) (by (with_reducible repeat first | apply bn | apply bd | apply ba); exact BK138.out) hg (Kd.R_ne HO134.out BK138.out (by decide)))
     have n3_ := asd (hb)
     have n4_ := asd (ho)
     clear BK130
     clear BK131
     clear BK138
     clear HB
     clear HO134
     have BK130 := n0_
     have BK131 := n1_
     have BK138 := n2_
     have HB := n3_
     have HO137 := n4_
     clear n0_ n1_ n2_ n3_ n4_
     clear ho hb hg hat
     obtain ⟨Ao10, co10, eo10⟩ := Kd.R_slice HO137.out
     (first | subst eo10 | (injection eo10 with f1_ f2_ f3_; have f4_ := f1_.symm; have f5_ := f3_.symm; clear f1_ f2_ f3_; subst f4_; subst f5_))
     refine hK.out _ _ ⟨(blk_cell BK130.out 0).trans rfl, (blk_cell BK130.out 1).trans rfl, (blk_cell BK130.out 2).trans rfl, (blk_cell BK130.out 3).trans rfl, (blk_cell BK130.out 4).trans rfl, (blk_cell BK130.out 5).trans rfl⟩ (fun hHeld => ?_)
     clear hK K
     refine norm_ (a' := ?_) ?_ ?_
     rotate_left
     ·show Act.put _ (some 9) _ = _
      simp only [Act.put, sB, i64_w, i32_w]
      rfl
     refine pure_ (i := 6) (N := some 12) (v := ?_) (a' := ?_) #[true, true, true, true, true, true, true, true, false] rfl rfl (any_of HT_.out (by kernel_rfl)) (fun _ _ _ h => h) (Or.inl ⟨by rfl, ?_⟩) ?_ ?_
     rotate_left
     ·intro w'
      go_simp
      with_reducible rfl
     rotate_left
     ·simp only [Act.put, sB, i64_w, i32_w]
      rfl
     exact norm_ (by simp only [putAll, Act.put, sB]) (hCont (v133, .slice Ao10 y135.length co10, gb138) _ ⟨hHeld, (by (with_reducible repeat (first | apply Kd.R_alloc | apply Kd.R_drewN | apply Kd.R_drew)); exact HO137.out), (by (with_reducible repeat first | apply bn | apply bd | apply ba); exact BK130.out), (by (with_reducible repeat first | apply bn | apply bd | apply ba); exact BK131.out), (by (with_reducible repeat first | apply bn | apply bd | apply ba); exact BK138.out), GW138.out, GE138.out, NB130_138.out, NB138_130.out, NB131_138.out, NB138_131.out, (by repeat (first | (with_reducible first | exact HB.out | apply wa | apply wn | apply wd | refine ws ?_ GE130.out | refine ws ?_ GE131.out | refine ws ?_ GE138.out) | exact HB.out))⟩)
   ·skip
    refine box_step ?hg (N := 3) ?hd (cs := #[.slice none 0 0, .slice none 0 0, .slice none 0 0, .int .u8 0, .int .u8 0, .int .u8 0]) (t := 49) ?hr ?_; (case hd => rfl); (case hg => rfl); (case hr => first | (go_simp; done) | (go_simp; rfl))
    intro gb138 hg w6 hbox hb
    have n0_ := asd (blk_below (g := gb130) (o := .cells #[.slice A0_0 l0_0.length c0_0, .slice A0_1 l0_1.length c0_1, .slice A0_2 l0_2.length c0_2, .int .u8 a0_3, .int .u8 a0_4, .int .u8 a0_5] 61 (0, 0)) (by (with_reducible repeat first | apply bn | apply bd | apply ba); exact BK130.out) hb)
    have n1_ := asd (blk_below (g := gb131) (o := .cells #[.slice none 0 0, .slice none 0 0, .slice none 0 0, .int .u8 0, .int .u8 0, .int .u8 0] 49 (0, 0)) (by (with_reducible repeat first | apply bn | apply bd | apply ba); exact BK131.out) hb)
    have n2_ := asd (below_step (by repeat (first | (with_reducible first | exact HB.out | apply wa | apply wn | apply wd | refine ws ?_ GE130.out | refine ws ?_ GE131.out) | exact HB.out)) hb)
    have n3_ := asd (hbox)
    have n4_ := asd ((by rw [hg]; exact (below_size (by repeat (first | (with_reducible first | exact HB.out | apply wa | apply wn | apply wd | refine ws ?_ GE130.out | refine ws ?_ GE131.out) | exact HB.out))) : w.heap.size ≤ gb138))
    have n5_ := asd ((by rw [hg]; exact (below_size (by repeat (first | (with_reducible first | exact HB.out | apply wa | apply wn | apply wd | refine ws ?_ GE130.out | refine ws ?_ GE131.out) | exact HB.out))) : w.heap.size ≤ gb138))
    have n6_ := asd ((by rw [hg]; exact Nat.ne_of_lt (blk_lt (g := gb130) (o := .cells #[.slice A0_0 l0_0.length c0_0, .slice A0_1 l0_1.length c0_1, .slice A0_2 l0_2.length c0_2, .int .u8 a0_3, .int .u8 a0_4, .int .u8 a0_5] 61 (0, 0)) (by (with_reducible repeat first | apply bn | apply bd | apply ba); exact BK130.out)) : gb130 ≠ gb138))
    have n7_ := asd ((by rw [hg]; exact Nat.ne_of_gt (blk_lt (g := gb130) (o := .cells #[.slice A0_0 l0_0.length c0_0, .slice A0_1 l0_1.length c0_1, .slice A0_2 l0_2.length c0_2, .int .u8 a0_3, .int .u8 a0_4, .int .u8 a0_5] 61 (0, 0)) (by (with_reducible repeat first | apply bn | apply bd | apply ba); exact BK130.out)) : gb138 ≠ gb130))
    have n8_ := asd ((by rw [hg]; exact Nat.ne_of_lt (blk_lt (g := gb131) (o := .cells #[.slice none 0 0, .slice none 0 0, .slice none 0 0, .int .u8 0, .int .u8 0, .int .u8 0] 49 (0, 0)) (by (with_reducible repeat first | apply bn | apply bd | apply ba); exact BK131.out)) : gb131 ≠ gb138))
    have n9_ := asd ((by rw [hg]; exact Nat.ne_of_gt (blk_lt (g := gb131) (o := .cells #[.slice none 0 0, .slice none 0 0, .slice none 0 0, .int .u8 0, .int .u8 0, .int .u8 0] 49 (0, 0)) (by (with_reducible repeat first | apply bn | apply bd | apply ba); exact BK131.out)) : gb138 ≠ gb131))
    clear BK130
    clear BK131
    clear HB
    have BK130 := n0_
    have BK131 := n1_
    have HB := n2_
    have BK138 := n3_
    have GW138 := n4_
    have GE138 := n5_
    have NB130_138 := n6_
    have NB138_130 := n7_
    have NB131_138 := n8_
    have NB138_131 := n9_
    clear n0_ n1_ n2_ n3_ n4_ n5_ n6_ n7_ n8_ n9_
    clear hb hbox hg
    refine hK.out _ _ ⟨(blk_cell BK130.out 0).trans rfl, (blk_cell BK130.out 1).trans rfl, (blk_cell BK130.out 2).trans rfl, (blk_cell BK130.out 3).trans rfl, (blk_cell BK130.out 4).trans rfl, (blk_cell BK130.out 5).trans rfl⟩ (fun hHeld => ?_)
    clear hK K
    refine norm_ (a' := ?_) ?_ ?_
    rotate_left
    ·show Act.put _ (some 3) _ = _
     simp only [Act.put, sB, i64_w, i32_w]
     rfl
    refine one_ (i := 0) (N := some 6) #[true, true, true, false, true, true, false, true, false] rfl rfl (one_of HT_.out (by kernel_rfl)) (by decide) (fun K hK => ?_)
    refine Kd.R_lit_step (Kd.int .i64) _ 3 ?hg (N := 6) ?hd (xs := ([] : List Int)) (inner := []) (ok := fun _ => True) (okp := fun _ => True) ?hr ?hp (fun _ hk => hk) trivial (Below.refl _ _) (Nat.le_refl _) (by simp) ?_; (case hd => rfl); (case hg => rfl); (case hr => first | (go_simp; done) | (go_simp; rfl)); (case hp => exact (Reps.none _ _))
    intro v133 w7 ho8 hb hg_ hnew_
    clear hg_ hnew_
    (first | rw [← Ny132.out] at ho8 | (simp only [Int.reduceToNat] at ho8; rw [← Ny132.out] at ho8))
    have n0_ := asd (Kd.R_lower ho8 (below_size (by repeat (first | (with_reducible first | exact HB.out | apply wa | apply wn | apply wd | refine ws ?_ GE130.out | refine ws ?_ GE131.out | refine ws ?_ GE138.out) | exact HB.out))))
    have n1_ := asd (blk_below (g := gb130) (o := .cells #[.slice A0_0 l0_0.length c0_0, .slice A0_1 l0_1.length c0_1, .slice A0_2 l0_2.length c0_2, .int .u8 a0_3, .int .u8 a0_4, .int .u8 a0_5] 61 (0, 0)) (by (with_reducible repeat first | apply bn | apply bd | apply ba); exact BK130.out) hb)
    have n2_ := asd (blk_below (g := gb131) (o := .cells #[.slice none 0 0, .slice none 0 0, .slice none 0 0, .int .u8 0, .int .u8 0, .int .u8 0] 49 (0, 0)) (by (with_reducible repeat first | apply bn | apply bd | apply ba); exact BK131.out) hb)
    have n3_ := asd (blk_below (g := gb138) (o := .cells #[.slice none 0 0, .slice none 0 0, .slice none 0 0, .int .u8 0, .int .u8 0, .int .u8 0] 49 (0, 0)) (by (with_reducible repeat first | apply bn | apply bd | apply ba); exact BK138.out) hb)
    have n4_ := asd (below_step (by repeat (first | (with_reducible first | exact HB.out | apply wa | apply wn | apply wd | refine ws ?_ GE130.out | refine ws ?_ GE131.out | refine ws ?_ GE138.out) | exact HB.out)) hb)
    clear BK130
    clear BK131
    clear BK138
    clear HB
    have HO134 := n0_
    have BK130 := n1_
    have BK131 := n2_
    have BK138 := n3_
    have HB := n4_
    clear n0_ n1_ n2_ n3_ n4_
    clear hb ho8
    refine hK.out _ _ ⟨(blk_cell BK130.out 0).trans rfl, (blk_cell BK130.out 1).trans rfl, (blk_cell BK130.out 2).trans rfl, (blk_cell BK130.out 3).trans rfl, (blk_cell BK130.out 4).trans rfl, (blk_cell BK130.out 5).trans rfl⟩ (fun hHeld => ?_)
    clear hK K
    refine norm_ (a' := ?_) ?_ ?_
    rotate_left
    ·show Act.put _ (some 6) _ = _
     simp only [Act.put, sB, i64_w, i32_w]
     rfl
    refine one_ (i := 3) (N := some 9) #[true, true, true, true, true, true, false, true, false] rfl rfl (one_of HT_.out (by kernel_rfl)) (by decide) (fun K hK => ?_)
    refine Kd.R_append_rows_step (Kd.int .i64) (w0 := w) w.heap.size (by rfl) (.tmp 6) (.tmp 8) 27 3 (.int .i64 0) 8 rfl Try.underlying27 info3 rfl (by decide) (by omega) v133 y132 l0_2 _ _ _ (fun _ => True) (fun _ => False) rfl rfl ?aO ?aR (fun _ _ h => h) (fun _ h => h.elim) ?aF ?aB ?aS ?aL ?_
    (case aR => repeat (first | exact (Kd.C_below HR0_2.out HB.out) | (with_reducible refine Kd.C_alloc ?_ _) | (with_reducible refine Kd.C_drewN ?_ _) | (with_reducible refine Kd.C_drew ?_)))
    (case aB => exact (by repeat (first | (with_reducible first | exact HB.out | apply wa | apply wn | apply wd | refine ws ?_ GE130.out | refine ws ?_ GE131.out | refine ws ?_ GE138.out) | exact HB.out)))
    (case aF => exact (fun _ _ => trivial))
    (case aO => exact (by (with_reducible repeat (first | apply Kd.R_alloc | apply Kd.R_drewN | apply Kd.R_drew)); exact HO134.out))
    (case aS => exact (below_size (by repeat (first | (with_reducible first | exact HB.out | apply wa | apply wn | apply wd | refine ws ?_ GE130.out | refine ws ?_ GE131.out | refine ws ?_ GE138.out) | exact HB.out))))
    (case aL => have := LMc2.out; omega)
    intro v136 w9 ho hb hg hat
    rw [← Ny135.out] at ho
    have n0_ := asd (blk_grown (g := gb130) (o := .cells #[.slice A0_0 l0_0.length c0_0, .slice A0_1 l0_1.length c0_1, .slice A0_2 l0_2.length c0_2, .int .u8 a0_3, .int .u8 a0_4, .int .u8 a0_5] 61 (0, 0)) (by (with_reducible repeat first | apply bn | apply bd | apply ba); exact BK130.out) hg (Kd.R_ne HO134.out BK130.out (by decide)))
    have n1_ := asd (blk_grown (g := gb131) (o := .cells #[.slice none 0 0, .slice none 0 0, .slice none 0 0, .int .u8 0, .int .u8 0, .int .u8 0] 49 (0, 0)) (by (with_reducible repeat first | apply bn | apply bd | apply ba); exact BK131.out) hg (Kd.R_ne HO134.out BK131.out (by decide)))
    have n2_ := asd (blk_grown (g := gb138) (o := .cells #[.slice none 0 0, .slice none 0 0, .slice none 0 0, .int .u8 0, .int .u8 0, .int .u8 0] 49 (0, 0)) (by (with_reducible repeat first | apply bn | apply bd | apply ba); exact BK138.out) hg (Kd.R_ne HO134.out BK138.out (by decide)))
    have n3_ := asd (hb)
    have n4_ := asd (ho)
    clear BK130
    clear BK131
    clear BK138
    clear HB
    clear HO134
    have BK130 := n0_
    have BK131 := n1_
    have BK138 := n2_
    have HB := n3_
    have HO137 := n4_
    clear n0_ n1_ n2_ n3_ n4_
    clear ho hb hg hat
    obtain ⟨Ao10, co10, eo10⟩ := Kd.R_slice HO137.out
    (first | subst eo10 | (injection eo10 with f1_ f2_ f3_; have f4_ := f1_.symm; have f5_ := f3_.symm; clear f1_ f2_ f3_; subst f4_; subst f5_))
    refine hK.out _ _ ⟨(blk_cell BK130.out 0).trans rfl, (blk_cell BK130.out 1).trans rfl, (blk_cell BK130.out 2).trans rfl, (blk_cell BK130.out 3).trans rfl, (blk_cell BK130.out 4).trans rfl, (blk_cell BK130.out 5).trans rfl⟩ (fun hHeld => ?_)
    clear hK K
    refine norm_ (a' := ?_) ?_ ?_
    rotate_left
    ·show Act.put _ (some 9) _ = _
     simp only [Act.put, sB, i64_w, i32_w]
     rfl
    refine pure_ (i := 6) (N := some 12) (v := ?_) (a' := ?_) #[true, true, true, true, true, true, true, true, false] rfl rfl (any_of HT_.out (by kernel_rfl)) (fun _ _ _ h => h) (Or.inl ⟨by rfl, ?_⟩) ?_ ?_
    rotate_left
    ·intro w'
     go_simp
     with_reducible rfl
    rotate_left
    ·simp only [Act.put, sB, i64_w, i32_w]
     rfl
    exact norm_ (by simp only [putAll, Act.put, sB]) (hCont (v133, .slice Ao10 y135.length co10, gb138) _ ⟨hHeld, (by (with_reducible repeat (first | apply Kd.R_alloc | apply Kd.R_drewN | apply Kd.R_drew)); exact HO137.out), (by (with_reducible repeat first | apply bn | apply bd | apply ba); exact BK130.out), (by (with_reducible repeat first | apply bn | apply bd | apply ba); exact BK131.out), (by (with_reducible repeat first | apply bn | apply bd | apply ba); exact BK138.out), GW138.out, GE138.out, NB130_138.out, NB138_130.out, NB131_138.out, NB138_131.out, (by repeat (first | (with_reducible first | exact HB.out | apply wa | apply wn | apply wd | refine ws ?_ GE130.out | refine ws ?_ GE131.out | refine ws ?_ GE138.out) | exact HB.out))⟩)
  rintro ⟨v133, v136, gb138⟩ w11 ⟨hS_, h0_, h1_, h2_, h3_, h4_, h5_, h6_, h7_, h8_, h9_, h10_⟩
  have n0_ : Aside0 (Kd.R (Kd.int .i64) 3 w11 w.heap.size (fun _ => True) v136 y135) := ⟨h0_⟩
  have n1_ : Aside0 (w11.heap[gb130]? = some (.cells #[.slice A0_0 l0_0.length c0_0, .slice A0_1 l0_1.length c0_1, .slice A0_2 l0_2.length c0_2, .int .u8 a0_3, .int .u8 a0_4, .int .u8 a0_5] 61 (0, 0))) := ⟨h1_⟩
  have n2_ : Aside0 (w11.heap[gb131]? = some (.cells #[.slice none 0 0, .slice none 0 0, .slice none 0 0, .int .u8 0, .int .u8 0, .int .u8 0] 49 (0, 0))) := ⟨h2_⟩
  have n3_ : Aside0 (w11.heap[gb138]? = some (.cells #[.slice none 0 0, .slice none 0 0, .slice none 0 0, .int .u8 0, .int .u8 0, .int .u8 0] 49 (0, 0))) := ⟨h3_⟩
  have n4_ : Aside0 (w.heap.size ≤ gb138) := ⟨h4_⟩
  have n5_ : Aside0 (w.heap.size ≤ gb138) := ⟨h5_⟩
  have n6_ : Aside0 (gb130 ≠ gb138) := ⟨h6_⟩
  have n7_ : Aside0 (gb138 ≠ gb130) := ⟨h7_⟩
  have n8_ : Aside0 (gb131 ≠ gb138) := ⟨h8_⟩
  have n9_ : Aside0 (gb138 ≠ gb131) := ⟨h9_⟩
  have n10_ : Aside0 (Below w.heap.size w w11) := ⟨h10_⟩
  clear BK130
  clear BK131
  clear HB
  clear h0_ h1_ h2_ h3_ h4_ h5_ h6_ h7_ h8_ h9_ h10_
  have HO137 := n0_
  have BK130 := n1_
  have BK131 := n2_
  have BK138 := n3_
  have GW138 := n4_
  have GE138 := n5_
  have NB130_138 := n6_
  have NB138_130 := n7_
  have NB131_138 := n8_
  have NB138_131 := n9_
  have HB := n10_
  clear n0_ n1_ n2_ n3_ n4_ n5_ n6_ n7_ n8_ n9_ n10_
  have hHeld : w11.cell? ⟨gb130, 0, none⟩ = some (.slice A0_0 l0_0.length c0_0) ∧ w11.cell? ⟨gb130, 1, none⟩ = some (.slice A0_1 l0_1.length c0_1) ∧ w11.cell? ⟨gb130, 2, none⟩ = some (.slice A0_2 l0_2.length c0_2) ∧ w11.cell? ⟨gb130, 3, none⟩ = some (.int .u8 a0_3) ∧ w11.cell? ⟨gb130, 4, none⟩ = some (.int .u8 a0_4) ∧ w11.cell? ⟨gb130, 5, none⟩ = some (.int .u8 a0_5) := hS_
  obtain ⟨Ao12, co12, eo12⟩ := Kd.R_slice HO137.out
  (first | subst eo12 | (injection eo12 with f1_ f2_ f3_; have f4_ := f1_.symm; have f5_ := f3_.symm; clear f1_ f2_ f3_; subst f4_; subst f5_))
  refine norm_ (a' := ?_) ?_ ?_
  rotate_left
  ·simp only [putAll, Act.put, sB]
   rfl
  refine one_ (i := 8) (N := none) #[true, true, true, true, true, true, true, true, true] rfl rfl (one_of HT_.out (by kernel_rfl)) (by decide) (fun K hK => ?_)
  have hs13 : w11.cell? ⟨gb138, 0, none⟩ = some (.slice none 0 0) := (blk_cell BK138.out 0).trans rfl
  have hfs13 := blk_frozen BK138.out 0
  have hns13_0 := NB130_138.out
  have hns13_1 := NB131_138.out
  have hms13_0 := NB138_130.out
  have hms13_1 := NB138_131.out
  have hs14 : w11.cell? ⟨gb138, 1, none⟩ = some (.slice none 0 0) := (blk_cell BK138.out 1).trans rfl
  have hfs14 := blk_frozen BK138.out 1
  have hns14_0 := NB130_138.out
  have hns14_1 := NB131_138.out
  have hms14_0 := NB138_130.out
  have hms14_1 := NB138_131.out
  have hs15 : w11.cell? ⟨gb138, 2, none⟩ = some (.slice none 0 0) := (blk_cell BK138.out 2).trans rfl
  have hfs15 := blk_frozen BK138.out 2
  have hns15_0 := NB130_138.out
  have hns15_1 := NB131_138.out
  have hms15_0 := NB138_130.out
  have hms15_1 := NB138_131.out
  have hs16 : w11.cell? ⟨gb138, 3, none⟩ = some (.int .u8 0) := (blk_cell BK138.out 3).trans rfl
  have hfs16 := blk_frozen BK138.out 3
  have hns16_0 := NB130_138.out
  have hns16_1 := NB131_138.out
  have hms16_0 := NB138_130.out
  have hms16_1 := NB138_131.out
  have hs17 : w11.cell? ⟨gb138, 4, none⟩ = some (.int .u8 0) := (blk_cell BK138.out 4).trans rfl
  have hfs17 := blk_frozen BK138.out 4
  have hns17_0 := NB130_138.out
  have hns17_1 := NB131_138.out
  have hms17_0 := NB138_130.out
  have hms17_1 := NB138_131.out
  have hs18 : w11.cell? ⟨gb138, 5, none⟩ = some (.int .u8 0) := (blk_cell BK138.out 5).trans rfl
  have hfs18 := blk_frozen BK138.out 5
  have hns18_0 := NB130_138.out
  have hns18_1 := NB131_138.out
  have hms18_0 := NB138_130.out
  have hms18_1 := NB138_131.out
  refine skip_ (w1 := ?_) (by rfl) rfl ?_ ?_
  rotate_left
  ·go_simp
   rfl
  refine hK.out _ _ ⟨((cell_far (p := ⟨gb138, _, none⟩) NB130_138.out _).trans (((cell_far (p := ⟨gb138, _, none⟩) NB130_138.out _).trans (((cell_far (p := ⟨gb138, _, none⟩) NB130_138.out _).trans (((cell_far (p := ⟨gb138, _, none⟩) NB130_138.out _).trans (((cell_far (p := ⟨gb138, _, none⟩) NB130_138.out _).trans (((cell_far (p := ⟨gb138, _, none⟩) NB130_138.out _).trans (hHeld.1)))))))))))), ((cell_far (p := ⟨gb138, _, none⟩) NB130_138.out _).trans (((cell_far (p := ⟨gb138, _, none⟩) NB130_138.out _).trans (((cell_far (p := ⟨gb138, _, none⟩) NB130_138.out _).trans (((cell_far (p := ⟨gb138, _, none⟩) NB130_138.out _).trans (((cell_far (p := ⟨gb138, _, none⟩) NB130_138.out _).trans (((cell_far (p := ⟨gb138, _, none⟩) NB130_138.out _).trans (hHeld.2.1)))))))))))), ((cell_far (p := ⟨gb138, _, none⟩) NB130_138.out _).trans (((cell_far (p := ⟨gb138, _, none⟩) NB130_138.out _).trans (((cell_far (p := ⟨gb138, _, none⟩) NB130_138.out _).trans (((cell_far (p := ⟨gb138, _, none⟩) NB130_138.out _).trans (((cell_far (p := ⟨gb138, _, none⟩) NB130_138.out _).trans (((cell_far (p := ⟨gb138, _, none⟩) NB130_138.out _).trans (hHeld.2.2.1)))))))))))), ((cell_far (p := ⟨gb138, _, none⟩) NB130_138.out _).trans (((cell_far (p := ⟨gb138, _, none⟩) NB130_138.out _).trans (((cell_far (p := ⟨gb138, _, none⟩) NB130_138.out _).trans (((cell_far (p := ⟨gb138, _, none⟩) NB130_138.out _).trans (((cell_far (p := ⟨gb138, _, none⟩) NB130_138.out _).trans (((cell_far (p := ⟨gb138, _, none⟩) NB130_138.out _).trans (hHeld.2.2.2.1)))))))))))), ((cell_far (p := ⟨gb138, _, none⟩) NB130_138.out _).trans (((cell_far (p := ⟨gb138, _, none⟩) NB130_138.out _).trans (((cell_far (p := ⟨gb138, _, none⟩) NB130_138.out _).trans (((cell_far (p := ⟨gb138, _, none⟩) NB130_138.out _).trans (((cell_far (p := ⟨gb138, _, none⟩) NB130_138.out _).trans (((cell_far (p := ⟨gb138, _, none⟩) NB130_138.out _).trans (hHeld.2.2.2.2.1)))))))))))), ((cell_far (p := ⟨gb138, _, none⟩) NB130_138.out _).trans (((cell_far (p := ⟨gb138, _, none⟩) NB130_138.out _).trans (((cell_far (p := ⟨gb138, _, none⟩) NB130_138.out _).trans (((cell_far (p := ⟨gb138, _, none⟩) NB130_138.out _).trans (((cell_far (p := ⟨gb138, _, none⟩) NB130_138.out _).trans (((cell_far (p := ⟨gb138, _, none⟩) NB130_138.out _).trans (hHeld.2.2.2.2.2))))))))))))⟩ (fun hHeld => ?_)
  clear hK K
  refine done_ (done_of HT_.out (by kernel_rfl)) ?_
  try go_wp2
  go_loopg [4] k (fun kq v4 w' => ∃ (x4_1 : Int) (x139000_1 : List (S51)) (u139000 : Value), v4 = .int .i64 x4_1 ∧ Aside0 (parcloselaw03_Part.l0 kq x4_1 l0_0 l0_1 l0_2 a0_3 a0_4 a0_5 x139000_1 y135 a0_3 a0_4 a0_5 = some (r1, r2, r3, r4, r5, r6)) ∧ Aside0 (kq ≤ k) ∧ Aside0 (Kd.R k51 51 w' w.heap.size (fun _ => True) u139000 x139000_1) ∧ Aside0 (Kd.R (Kd.int .i64) 3 w' w.heap.size (fun _ => True) (.slice Ao12 y135.length co12) y135) ∧ Aside0 (w'.heap[gb130]? = some (.cells #[(.slice A0_0 l0_0.length c0_0), (.slice A0_1 l0_1.length c0_1), (.slice A0_2 l0_2.length c0_2), .int .u8 a0_3, .int .u8 a0_4, .int .u8 a0_5] 61 (0, 0))) ∧ Aside0 (w'.heap[gb131]? = some (.cells #[(.slice none 0 0), (.slice none 0 0), (.slice none 0 0), .int .u8 0, .int .u8 0, .int .u8 0] 49 (0, 0))) ∧ Aside0 (w'.heap[gb138]? = some (.cells #[u139000, (.slice none 0 0), (.slice Ao12 y135.length co12), .int .u8 a0_3, .int .u8 a0_4, .int .u8 a0_5] 49 (0, 0))) ∧ Aside0 (Below w.heap.size w w'))
  case atStart => exact ⟨(0), (([] : List (S51))), (.slice none 0 0), (by first | rfl | (simp; done) | (simp [*]; done)), H', ⟨Nat.le_refl _⟩, ⟨by first | exact Kd.R_nil _ _ _ _ _ | exact Kd.N_nil _ _ _ _ _ | exact Kd.V_nil _ _ _ _ _ | exact Kd.Q_nil _ _ _ _ _ | exact Kd.S_nil _ _ _ _ _⟩, ⟨by (with_reducible repeat (first | apply Kd.R_alloc | apply Kd.R_drewN | apply Kd.R_drew)); exact Kd.R_mono (Kd.R_far (p := ⟨gb138, 5, none⟩) (Kd.R_far (p := ⟨gb138, 4, none⟩) (Kd.R_far (p := ⟨gb138, 3, none⟩) (Kd.R_far (p := ⟨gb138, 2, none⟩) (Kd.R_far (p := ⟨gb138, 1, none⟩) (Kd.R_far (p := ⟨gb138, 0, none⟩) (Kd.R_types HO137.out BK138.out (by decide)) (fun _ hk => hk.2) (.slice none 0 0)) (fun _ hk => hk.2) (.slice none 0 0)) (fun _ hk => hk.2) (.slice Ao12 y135.length co12)) (fun _ hk => hk.2) (.int .u8 a0_3)) (fun _ hk => hk.2) (.int .u8 a0_4)) (fun _ hk => hk.2) (.int .u8 a0_5)) (fun _ hk => trivial)⟩, ⟨by (with_reducible repeat first | apply bn | apply bd | apply ba); refine blk_far ?_ NB130_138.out _; (with_reducible repeat first | apply bn | apply bd | apply ba); refine blk_far ?_ NB130_138.out _; (with_reducible repeat first | apply bn | apply bd | apply ba); refine blk_far ?_ NB130_138.out _; (with_reducible repeat first | apply bn | apply bd | apply ba); refine blk_far ?_ NB130_138.out _; (with_reducible repeat first | apply bn | apply bd | apply ba); refine blk_far ?_ NB130_138.out _; (with_reducible repeat first | apply bn | apply bd | apply ba); refine blk_far ?_ NB130_138.out _; (with_reducible repeat first | apply bn | apply bd | apply ba); exact BK130.out⟩, ⟨by (with_reducible repeat first | apply bn | apply bd | apply ba); refine blk_far ?_ NB131_138.out _; (with_reducible repeat first | apply bn | apply bd | apply ba); refine blk_far ?_ NB131_138.out _; (with_reducible repeat first | apply bn | apply bd | apply ba); refine blk_far ?_ NB131_138.out _; (with_reducible repeat first | apply bn | apply bd | apply ba); refine blk_far ?_ NB131_138.out _; (with_reducible repeat first | apply bn | apply bd | apply ba); refine blk_far ?_ NB131_138.out _; (with_reducible repeat first | apply bn | apply bd | apply ba); refine blk_far ?_ NB131_138.out _; (with_reducible repeat first | apply bn | apply bd | apply ba); exact BK131.out⟩, ⟨by (with_reducible repeat first | apply bn | apply bd | apply ba); refine blk_put (cs := #[.slice none 0 0, .slice none 0 0, .slice Ao12 y135.length co12, .int .u8 a0_3, .int .u8 a0_4, .int .u8 0]) ?_ 5 _ rfl; (with_reducible repeat first | apply bn | apply bd | apply ba); refine blk_put (cs := #[.slice none 0 0, .slice none 0 0, .slice Ao12 y135.length co12, .int .u8 a0_3, .int .u8 0, .int .u8 0]) ?_ 4 _ rfl; (with_reducible repeat first | apply bn | apply bd | apply ba); refine blk_put (cs := #[.slice none 0 0, .slice none 0 0, .slice Ao12 y135.length co12, .int .u8 0, .int .u8 0, .int .u8 0]) ?_ 3 _ rfl; (with_reducible repeat first | apply bn | apply bd | apply ba); refine blk_put (cs := #[.slice none 0 0, .slice none 0 0, .slice none 0 0, .int .u8 0, .int .u8 0, .int .u8 0]) ?_ 2 _ rfl; (with_reducible repeat first | apply bn | apply bd | apply ba); refine blk_put (cs := #[.slice none 0 0, .slice none 0 0, .slice none 0 0, .int .u8 0, .int .u8 0, .int .u8 0]) ?_ 1 _ rfl; (with_reducible repeat first | apply bn | apply bd | apply ba); refine blk_put (cs := #[.slice none 0 0, .slice none 0 0, .slice none 0 0, .int .u8 0, .int .u8 0, .int .u8 0]) ?_ 0 _ rfl; (with_reducible repeat first | apply bn | apply bd | apply ba); exact BK138.out⟩, ⟨by repeat (first | (with_reducible first | exact HB.out | apply wa | apply wn | apply wd | refine ws ?_ GE130.out | refine ws ?_ GE131.out | refine ws ?_ GE138.out) | exact HB.out)⟩⟩
  case round =>
   clear H'
   try clear c2
   try clear p2
   try clear c3
   obtain ⟨x4_1, x139000_1, u139000, rfl, HA, HK1, HO_139000, HO_139002, BK130, BK131, BK138, HB⟩ := hrel
   cases gk with
   | zero => exact absurd HA.out (by simp [parcloselaw03_Part.l0])
   | succ k1 =>
    have H := HA.out
    clear HA
    simp only [parcloselaw03_Part.l0] at H
    by_cases c19 : x4_1 < (l0_0.length : Int)
    ·rw [if_pos c19] at H
     have c19b0 : decide (x4_1 < (l0_0.length : Int)) = true := decide_eq_true c19
     clear c19
     by_cases c20 : 0 ≤ x4_1
     ·rw [if_pos c20] at H
      have c20b0 : decide (0 ≤ x4_1) = true := decide_eq_true c20
      clear c20
      by_cases c21 : x139000_1.length < 2932031007402
      ·rw [if_pos c21] at H
       have LMc21 := asd c21
       clear c21
       obtain ⟨y140, hy140⟩ : ∃ y_ : List (S51), y_ = (x139000_1 ++ [(⟨(rd_T56 l0_0 x4_1).f0, (rd_T56 l0_0 x4_1).f1, (rd_T56 l0_0 x4_1).f2, (rd_T56 l0_0 x4_1).f3, (rd_T56 l0_0 x4_1).f4, (rd_T56 l0_0 x4_1).f5⟩ : S51)]) := ⟨_, rfl⟩
       replace H : (parcloselaw03_Part.l0 k1 (wrap64 (x4_1 + 1)) l0_0 l0_1 l0_2 a0_3 a0_4 a0_5 y140 y135 a0_3 a0_4 a0_5) = some (r1, r2, r3, r4, r5, r6) := by first | (rw [hy140]; with_reducible exact H) | (have H2_ := (Option.bind_some _ _).symm.trans H; rw [hy140]; with_reducible exact H2_) | (have H2_ := (Option.bind_some _ _).symm.trans H; with_reducible exact H2_) | with_reducible exact H | (rw [hy140]; exact H) | exact H
       have Ny140 := asd hy140
       clear hy140
       have H' := asd H
       clear H
       have hnb22 := NB130_131.out
       have hnc22 := NB131_130.out
       have hnb23 := NB130_138.out
       have hnc23 := NB138_130.out
       have hcz24_0 : wr.cell? ⟨gb130, 0, none⟩ = some (.slice A0_0 l0_0.length c0_0) := (blk_cell BK130.out 0).trans rfl
       have hcz24_1 : wr.cell? ⟨gb130, 1, none⟩ = some (.slice A0_1 l0_1.length c0_1) := (blk_cell BK130.out 1).trans rfl
       have hcz24_2 : wr.cell? ⟨gb130, 2, none⟩ = some (.slice A0_2 l0_2.length c0_2) := (blk_cell BK130.out 2).trans rfl
       have hcz24_3 : wr.cell? ⟨gb130, 3, none⟩ = some (.int .u8 a0_3) := (blk_cell BK130.out 3).trans rfl
       have hcz24_4 : wr.cell? ⟨gb130, 4, none⟩ = some (.int .u8 a0_4) := (blk_cell BK130.out 4).trans rfl
       have hcz24_5 : wr.cell? ⟨gb130, 5, none⟩ = some (.int .u8 a0_5) := (blk_cell BK130.out 5).trans rfl
       have hfz24_0 := blk_frozen BK130.out 0
       have hfz24_1 := blk_frozen BK130.out 1
       have hfz24_2 := blk_frozen BK130.out 2
       have hfz24_3 := blk_frozen BK130.out 3
       have hfz24_4 := blk_frozen BK130.out 4
       have hfz24_5 := blk_frozen BK130.out 5
       try go_wp2
       have n0_ := asd (Kd.R_drew HO_139000.out)
       have n1_ := asd (Kd.R_drew HO_139002.out)
       have n2_ := asd (blk_drew BK130.out)
       have n3_ := asd (blk_drew BK131.out)
       have n4_ := asd (blk_drew BK138.out)
       have n5_ := asd (below_drew1 HB.out)
       clear HO_139000
       clear HO_139002
       clear BK130
       clear BK131
       clear BK138
       clear HB
       have HO_139000 := n0_
       have HO_139002 := n1_
       have BK130 := n2_
       have BK131 := n3_
       have BK138 := n4_
       have HB := n5_
       clear n0_ n1_ n2_ n3_ n4_ n5_
       have p139 : 0 ≤ (x4_1 : Int) := of_decide_eq_true (by assumption)
       have q139 : x4_1 < (l0_0.length : Int) := of_decide_eq_true (by assumption)
       obtain ⟨ad139, e139, hx139_0, hx139_1, hx139_2, hx139_3, hx139_4, hx139_5⟩ := at_T56 HR0_0.out x4_1 p139 q139
       have hw139_5 := hx139_5
       have hw139_4 := hx139_4
       have hw139_3 := hx139_3
       have hw139_2 := hx139_2
       have hw139_1 := hx139_1
       have hw139_0 := hx139_0
       cases e139
       replace hx139_0 := (HB.out.cell (World.block_lt_of_cell? w _ hx139_0)).trans hx139_0
       replace hx139_1 := (HB.out.cell (World.block_lt_of_cell? w _ hx139_1)).trans hx139_1
       replace hx139_2 := (HB.out.cell (World.block_lt_of_cell? w _ hx139_2)).trans hx139_2
       replace hx139_3 := (HB.out.cell (World.block_lt_of_cell? w _ hx139_3)).trans hx139_3
       replace hx139_4 := (HB.out.cell (World.block_lt_of_cell? w _ hx139_4)).trans hx139_4
       replace hx139_5 := (HB.out.cell (World.block_lt_of_cell? w _ hx139_5)).trans hx139_5
       replace p139 := eq_true p139
       replace q139 := eq_true q139
       refine start_ (n := 11) (S := fun w' => w'.cell? ⟨gb138, 0, none⟩ = some (u139000) ∧ w'.cell? ⟨gb138, 1, none⟩ = some (.slice none 0 0) ∧ w'.cell? ⟨gb138, 2, none⟩ = some (.slice Ao12 y135.length co12) ∧ w'.cell? ⟨gb138, 3, none⟩ = some (.int .u8 a0_3) ∧ w'.cell? ⟨gb138, 4, none⟩ = some (.int .u8 a0_4) ∧ w'.cell? ⟨gb138, 5, none⟩ = some (.int .u8 a0_5) ∧ w'.cell? ⟨gb130, 0, none⟩ = some (.slice (some ad139) l0_0.length c0_0) ∧ w'.cell? ⟨gb130, 1, none⟩ = some (.slice A0_1 l0_1.length c0_1) ∧ w'.cell? ⟨gb130, 2, none⟩ = some (.slice A0_2 l0_2.length c0_2) ∧ w'.cell? ⟨gb130, 3, none⟩ = some (.int .u8 a0_3) ∧ w'.cell? ⟨gb130, 4, none⟩ = some (.int .u8 a0_4) ∧ w'.cell? ⟨gb130, 5, none⟩ = some (.int .u8 a0_5) ∧ w'.cell? (ad139.add ((x4_1).toNat * 6)) = some (.bool ((rd_T56 l0_0 x4_1).f0)) ∧ w'.cell? ⟨(ad139.add ((x4_1).toNat * 6)).block, (ad139.add ((x4_1).toNat * 6)).off + 1, none⟩ = some (.int .i64 ((rd_T56 l0_0 x4_1).f1)) ∧ w'.cell? ⟨(ad139.add ((x4_1).toNat * 6)).block, (ad139.add ((x4_1).toNat * 6)).off + 2, none⟩ = some (.int .i64 ((rd_T56 l0_0 x4_1).f2)) ∧ w'.cell? ⟨(ad139.add ((x4_1).toNat * 6)).block, (ad139.add ((x4_1).toNat * 6)).off + 3, none⟩ = some (.int .i64 ((rd_T56 l0_0 x4_1).f3)) ∧ w'.cell? ⟨(ad139.add ((x4_1).toNat * 6)).block, (ad139.add ((x4_1).toNat * 6)).off + 4, none⟩ = some (.int .i64 ((rd_T56 l0_0 x4_1).f4)) ∧ w'.cell? ⟨(ad139.add ((x4_1).toNat * 6)).block, (ad139.add ((x4_1).toNat * 6)).off + 5, none⟩ = some (.int .i64 ((rd_T56 l0_0 x4_1).f5))) (ds := [10]) #[false, false, false, false, false, false, false, false, false, false, false] (by kernel_rfl) rfl rfl ⟨(blk_cell BK138.out 0).trans rfl, (blk_cell BK138.out 1).trans rfl, (blk_cell BK138.out 2).trans rfl, (blk_cell BK138.out 3).trans rfl, (blk_cell BK138.out 4).trans rfl, (blk_cell BK138.out 5).trans rfl, (blk_cell BK130.out 0).trans rfl, (blk_cell BK130.out 1).trans rfl, (blk_cell BK130.out 2).trans rfl, (blk_cell BK130.out 3).trans rfl, (blk_cell BK130.out 4).trans rfl, (blk_cell BK130.out 5).trans rfl, ((HB.out.cell (World.block_lt_of_cell? w _ hw139_0)).trans hw139_0), ((HB.out.cell (World.block_lt_of_cell? w _ hw139_1)).trans hw139_1), ((HB.out.cell (World.block_lt_of_cell? w _ hw139_2)).trans hw139_2), ((HB.out.cell (World.block_lt_of_cell? w _ hw139_3)).trans hw139_3), ((HB.out.cell (World.block_lt_of_cell? w _ hw139_4)).trans hw139_4), ((HB.out.cell (World.block_lt_of_cell? w _ hw139_5)).trans hw139_5)⟩ (fun hHeld => ?_); refine with_tabW parcloselaw03_Part.tab5 parcloselaw03_Part.bits5 (fun HT_ HW_ => ?_)
       generalize wr.drew = w25 at HO_139000 HO_139002 BK130 BK131 BK138 HB hx139_0 hx139_1 hx139_2 hx139_3 hx139_4 hx139_5 hHeld ⊢
       refine pure_ (i := 0) (N := some 20) (v := ?_) (a' := ?_) #[true, false, false, false, false, false, false, false, false, false, false] rfl rfl (any_of HT_.out (by kernel_rfl)) (fun _ _ _ h => h) (Or.inl ⟨by rfl, ?_⟩) ?_ ?_
       rotate_left
       ·intro w'
        go_simp
        with_reducible rfl
       rotate_left
       ·simp only [Act.put, sB, i64_w, i32_w]
        rfl
       refine pure_ (i := 2) (N := some 22) (v := ?_) (a' := ?_) #[true, false, true, false, false, false, false, false, false, false, false] rfl rfl (any_of HT_.out (by kernel_rfl)) (fun _ _ _ h => h) (Or.inl ⟨by rfl, ?_⟩) ?_ ?_
       rotate_left
       ·intro w'
        go_simp
        with_reducible rfl
       rotate_left
       ·simp only [Act.put, sB, i64_w, i32_w]
        rfl
       refine pure_ (i := 4) (N := some 24) (v := ?_) (a' := ?_) #[true, false, true, false, true, false, false, false, false, false, false] rfl rfl (any_of HT_.out (by kernel_rfl)) (fun _ _ _ h => h) (Or.inl ⟨by rfl, ?_⟩) ?_ ?_
       rotate_left
       ·intro w'
        go_simp
        with_reducible rfl
       rotate_left
       ·simp only [Act.put, sB, i64_w, i32_w]
        rfl
       refine take_ (i := 1) (N := some 21) (v := ?_) (a' := ?_) #[true, true, true, false, true, false, false, false, false, false, false] rfl rfl (take_ofW HT_.out HW_.out (by kernel_rfl)) (fun _ _ _ h => h) (Or.inl ⟨by rfl, ?_⟩) hHeld ?_ ?_
       rotate_left
       ·rintro w' ⟨s0, s1, s2, s3, s4, s5, s6, s7, s8, s9, s10, s11, s12, s13, s14, s15, s16, s17⟩
        go_simp
        with_reducible rfl
       rotate_left
       ·simp only [Act.put, sB, i64_w, i32_w]
        rfl
       refine take_ (i := 3) (N := some 23) (v := ?_) (a' := ?_) #[true, true, true, true, true, false, false, false, false, false, false] rfl rfl (take_ofW HT_.out HW_.out (by kernel_rfl)) (fun _ _ _ h => h) (Or.inl ⟨by rfl, ?_⟩) hHeld ?_ ?_
       rotate_left
       ·rintro w' ⟨s0, s1, s2, s3, s4, s5, s6, s7, s8, s9, s10, s11, s12, s13, s14, s15, s16, s17⟩
        go_simp
        with_reducible rfl
       rotate_left
       ·simp only [Act.put, sB, i64_w, i32_w]
        rfl
       refine pure_ (i := 5) (N := some 25) (v := ?_) (a' := ?_) #[true, true, true, true, true, true, false, false, false, false, false] rfl rfl (any_of HT_.out (by kernel_rfl)) (fun _ _ _ h => h) (Or.inl ⟨by rfl, ?_⟩) ?_ ?_
       rotate_left
       ·intro w'
        go_simp
        with_reducible rfl
       rotate_left
       ·simp only [Act.put, sB, i64_w, i32_w]
        rfl
       refine take_ (i := 6) (N := some 26) (v := ?_) (a' := ?_) #[true, true, true, true, true, true, true, false, false, false, false] rfl rfl (take_ofW HT_.out HW_.out (by kernel_rfl)) (fun _ _ _ h => h) (Or.inl ⟨by rfl, ?_⟩) hHeld ?_ ?_
       rotate_left
       ·rintro w' ⟨s0, s1, s2, s3, s4, s5, s6, s7, s8, s9, s10, s11, s12, s13, s14, s15, s16, s17⟩
        go_simp
        with_reducible rfl
       rotate_left
       ·simp only [Act.put, sB, i64_w, i32_w]
        rfl
       refine one_ (i := 7) (N := some 27) #[true, true, true, true, true, true, true, true, false, false, false] rfl rfl (one_of HT_.out (by kernel_rfl)) (by decide) (fun K hK => ?_)
       refine value_ (w1 := ?_) (v := ?_) (by rfl) rfl ?_ ?_
       rotate_left 2
       ·go_simp
        constructor
        ·rfl
        ·rfl
       refine hK.out _ _ ⟨(blk_cell (blk_alloc BK138.out _) 0).trans rfl, (blk_cell (blk_alloc BK138.out _) 1).trans rfl, (blk_cell (blk_alloc BK138.out _) 2).trans rfl, (blk_cell (blk_alloc BK138.out _) 3).trans rfl, (blk_cell (blk_alloc BK138.out _) 4).trans rfl, (blk_cell (blk_alloc BK138.out _) 5).trans rfl, (blk_cell (blk_alloc BK130.out _) 0).trans rfl, (blk_cell (blk_alloc BK130.out _) 1).trans rfl, (blk_cell (blk_alloc BK130.out _) 2).trans rfl, (blk_cell (blk_alloc BK130.out _) 3).trans rfl, (blk_cell (blk_alloc BK130.out _) 4).trans rfl, (blk_cell (blk_alloc BK130.out _) 5).trans rfl, (World.cell?_alloc_lt _ _ _ (World.block_lt_of_cell? _ _ (((HB.out.cell (World.block_lt_of_cell? w _ hw139_0)).trans hw139_0)))).trans (((HB.out.cell (World.block_lt_of_cell? w _ hw139_0)).trans hw139_0)), (World.cell?_alloc_lt _ _ _ (World.block_lt_of_cell? _ _ (((HB.out.cell (World.block_lt_of_cell? w _ hw139_1)).trans hw139_1)))).trans (((HB.out.cell (World.block_lt_of_cell? w _ hw139_1)).trans hw139_1)), (World.cell?_alloc_lt _ _ _ (World.block_lt_of_cell? _ _ (((HB.out.cell (World.block_lt_of_cell? w _ hw139_2)).trans hw139_2)))).trans (((HB.out.cell (World.block_lt_of_cell? w _ hw139_2)).trans hw139_2)), (World.cell?_alloc_lt _ _ _ (World.block_lt_of_cell? _ _ (((HB.out.cell (World.block_lt_of_cell? w _ hw139_3)).trans hw139_3)))).trans (((HB.out.cell (World.block_lt_of_cell? w _ hw139_3)).trans hw139_3)), (World.cell?_alloc_lt _ _ _ (World.block_lt_of_cell? _ _ (((HB.out.cell (World.block_lt_of_cell? w _ hw139_4)).trans hw139_4)))).trans (((HB.out.cell (World.block_lt_of_cell? w _ hw139_4)).trans hw139_4)), (World.cell?_alloc_lt _ _ _ (World.block_lt_of_cell? _ _ (((HB.out.cell (World.block_lt_of_cell? w _ hw139_5)).trans hw139_5)))).trans (((HB.out.cell (World.block_lt_of_cell? w _ hw139_5)).trans hw139_5))⟩ (fun hHeld => ?_)
       clear hK K
       refine norm_ (a' := ?_) ?_ ?_
       rotate_left
       ·show Act.put _ (some 27) _ = _
        simp only [Act.put, sB, i64_w, i32_w]
        rfl
       refine one_ (i := 8) (N := some 28) #[true, true, true, true, true, true, true, true, true, false, false] rfl rfl (one_of HT_.out (by kernel_rfl)) (by decide) (fun K hK => ?_)
       refine Kd.R_append_step k51 (w0 := w) w.heap.size (by rfl) (.tmp 21) (.tmp 27) 45 51 (.agg #[(.bool false), (.int .i64 0), (.int .i64 0), (.int .i64 0), (.int .i64 0), (.int .i64 0)]) 48 rfl Try.underlying45 info51 rfl (by decide) (by omega) u139000 x139000_1 (⟨(rd_T56 l0_0 x4_1).f0, (rd_T56 l0_0 x4_1).f1, (rd_T56 l0_0 x4_1).f2, (rd_T56 l0_0 x4_1).f3, (rd_T56 l0_0 x4_1).f4, (rd_T56 l0_0 x4_1).f5⟩ : S51) [.bool ((rd_T56 l0_0 x4_1).f0), .int .i64 ((rd_T56 l0_0 x4_1).f1), .int .i64 ((rd_T56 l0_0 x4_1).f2), .int .i64 ((rd_T56 l0_0 x4_1).f3), .int .i64 ((rd_T56 l0_0 x4_1).f4), .int .i64 ((rd_T56 l0_0 x4_1).f5)] (fun _ => True) (fun _ => False) rfl rfl ?aP (fun _ hk => hk.elim) ?aF ?aO ?aB ?aS ?aL ?_
       (case aP => exact k51_mkM _ _ _ (⟨(rd_T56 l0_0 x4_1).f0, (rd_T56 l0_0 x4_1).f1, (rd_T56 l0_0 x4_1).f2, (rd_T56 l0_0 x4_1).f3, (rd_T56 l0_0 x4_1).f4, (rd_T56 l0_0 x4_1).f5⟩ : S51))
       (case aB => exact (by repeat (first | (with_reducible first | exact HB.out | apply wa | apply wn | apply wd | refine ws ?_ GE130.out | refine ws ?_ GE131.out | refine ws ?_ GE138.out) | exact HB.out)))
       (case aF => exact (fun _ _ => trivial))
       (case aO => exact (by (with_reducible repeat (first | apply Kd.R_alloc | apply Kd.R_drewN | apply Kd.R_drew)); exact HO_139000.out))
       (case aS => exact (below_size (by repeat (first | (with_reducible first | exact HB.out | apply wa | apply wn | apply wd | refine ws ?_ GE130.out | refine ws ?_ GE131.out | refine ws ?_ GE138.out) | exact HB.out))))
       (case aL => have := LMc21.out; omega)
       intro v141 w26 ho hb hg hat
       rw [← Ny140.out] at ho
       have n0_ := asd (Kd.R_over' (by (with_reducible repeat (first | apply Kd.R_alloc | apply Kd.R_drewN | apply Kd.R_drew)); exact HO_139002.out) (Kd.R_typed (by (with_reducible repeat (first | apply Kd.R_alloc | apply Kd.R_drewN | apply Kd.R_drew)); exact HO_139000.out)) (by decide) hg)
       have n1_ := asd (blk_grown (g := gb130) (o := .cells #[.slice (some ad139) l0_0.length c0_0, .slice A0_1 l0_1.length c0_1, .slice A0_2 l0_2.length c0_2, .int .u8 a0_3, .int .u8 a0_4, .int .u8 a0_5] 61 (0, 0)) (by (with_reducible repeat first | apply bn | apply bd | apply ba); exact BK130.out) hg (Kd.R_ne HO_139000.out BK130.out (by decide)))
       have n2_ := asd (blk_grown (g := gb131) (o := .cells #[.slice none 0 0, .slice none 0 0, .slice none 0 0, .int .u8 0, .int .u8 0, .int .u8 0] 49 (0, 0)) (by (with_reducible repeat first | apply bn | apply bd | apply ba); exact BK131.out) hg (Kd.R_ne HO_139000.out BK131.out (by decide)))
       have n3_ := asd (blk_grown (g := gb138) (o := .cells #[u139000, .slice none 0 0, .slice Ao12 y135.length co12, .int .u8 a0_3, .int .u8 a0_4, .int .u8 a0_5] 49 (0, 0)) (by (with_reducible repeat first | apply bn | apply bd | apply ba); exact BK138.out) hg (Kd.R_ne HO_139000.out BK138.out (by decide)))
       have n4_ := asd (hb)
       have n5_ := asd (ho)
       clear HO_139002
       clear BK130
       clear BK131
       clear BK138
       clear HB
       clear HO_139000
       have HO_139002 := n0_
       have BK130 := n1_
       have BK131 := n2_
       have BK138 := n3_
       have HB := n4_
       have HO142 := n5_
       clear n0_ n1_ n2_ n3_ n4_ n5_
       clear ho hb hg hat
       obtain ⟨Ao27, co27, eo27⟩ := Kd.R_slice HO142.out
       (first | subst eo27 | (injection eo27 with f1_ f2_ f3_; have f4_ := f1_.symm; have f5_ := f3_.symm; clear f1_ f2_ f3_; subst f4_; subst f5_))
       refine hK.out _ _ ⟨(blk_cell BK138.out 0).trans rfl, (blk_cell BK138.out 1).trans rfl, (blk_cell BK138.out 2).trans rfl, (blk_cell BK138.out 3).trans rfl, (blk_cell BK138.out 4).trans rfl, (blk_cell BK138.out 5).trans rfl, (blk_cell BK130.out 0).trans rfl, (blk_cell BK130.out 1).trans rfl, (blk_cell BK130.out 2).trans rfl, (blk_cell BK130.out 3).trans rfl, (blk_cell BK130.out 4).trans rfl, (blk_cell BK130.out 5).trans rfl, ((HB.out.cell (World.block_lt_of_cell? w _ hw139_0)).trans hw139_0), ((HB.out.cell (World.block_lt_of_cell? w _ hw139_1)).trans hw139_1), ((HB.out.cell (World.block_lt_of_cell? w _ hw139_2)).trans hw139_2), ((HB.out.cell (World.block_lt_of_cell? w _ hw139_3)).trans hw139_3), ((HB.out.cell (World.block_lt_of_cell? w _ hw139_4)).trans hw139_4), ((HB.out.cell (World.block_lt_of_cell? w _ hw139_5)).trans hw139_5)⟩ (fun hHeld => ?_)
       clear hK K
       refine norm_ (a' := ?_) ?_ ?_
       rotate_left
       ·show Act.put _ (some 28) _ = _
        simp only [Act.put, sB, i64_w, i32_w]
        rfl
       refine pure_ (i := 9) (N := some 29) (v := ?_) (a' := ?_) #[true, true, true, true, true, true, true, true, true, true, false] rfl rfl (any_of HT_.out (by kernel_rfl)) (fun _ _ _ h => h) (Or.inl ⟨by rfl, ?_⟩) ?_ ?_
       rotate_left
       ·intro w'
        go_simp
        with_reducible rfl
       rotate_left
       ·simp only [Act.put, sB, i64_w, i32_w]
        rfl
       refine last_ (i := 10) (N := none) #[true, true, true, true, true, true, true, true, true, true, true] rfl rfl (one_of HT_.out (by kernel_rfl)) (by decide) (fun K hK => ?_)
       have hs28 : w26.cell? ⟨gb138, 0, none⟩ = some (u139000) := (blk_cell BK138.out 0).trans rfl
       have hfs28 := blk_frozen BK138.out 0
       have hns28_0 := NB130_138.out
       have hns28_1 := NB131_138.out
       have hms28_0 := NB138_130.out
       have hms28_1 := NB138_131.out
       refine skip_ (w1 := ?_) (by rfl) rfl ?_ ?_
       rotate_left
       ·go_simp
        rfl
       refine hK.out _ _ ?_
       clear hK K
       refine done_ (done_of HT_.out (by kernel_rfl)) ?_
       try go_wp2
       go_roundg k1
       case measure => have := HK1.out; omega
       case rel => exact ⟨(wrap64 (x4_1 + 1)), (y140), (.slice Ao27 y140.length co27), (by first | rfl | (simp; done) | (simp [*]; done)), H', ⟨by have := HK1.out; omega⟩, ⟨by (with_reducible repeat (first | apply Kd.R_alloc | apply Kd.R_drewN | apply Kd.R_drew)); exact Kd.R_mono (Kd.R_far (p := ⟨gb138, 0, none⟩) (Kd.R_types HO142.out BK138.out (by decide)) (fun _ hk => hk.2) (.slice Ao27 y140.length co27)) (fun _ hk => trivial)⟩, ⟨by (with_reducible repeat (first | apply Kd.R_alloc | apply Kd.R_drewN | apply Kd.R_drew)); exact Kd.R_mono (Kd.R_far (p := ⟨gb138, 0, none⟩) (Kd.R_types HO_139002.out BK138.out (by decide)) (fun _ hk => hk.2) (.slice Ao27 y140.length co27)) (fun _ hk => trivial)⟩, ⟨by (with_reducible repeat first | apply bn | apply bd | apply ba); refine blk_far ?_ NB130_138.out _; (with_reducible repeat first | apply bn | apply bd | apply ba); exact BK130.out⟩, ⟨by (with_reducible repeat first | apply bn | apply bd | apply ba); refine blk_far ?_ NB131_138.out _; (with_reducible repeat first | apply bn | apply bd | apply ba); exact BK131.out⟩, ⟨by (with_reducible repeat first | apply bn | apply bd | apply ba); refine blk_put (cs := #[u139000, .slice none 0 0, .slice Ao12 y135.length co12, .int .u8 a0_3, .int .u8 a0_4, .int .u8 a0_5]) ?_ 0 _ rfl; (with_reducible repeat first | apply bn | apply bd | apply ba); exact BK138.out⟩, ⟨by repeat (first | (with_reducible first | exact HB.out | apply wa | apply wn | apply wd | refine ws ?_ GE130.out | refine ws ?_ GE131.out | refine ws ?_ GE138.out) | exact HB.out)⟩⟩
      ·rw [if_neg c21] at H
       exact absurd H (by simp)
     ·rw [if_neg c20] at H
      exact absurd H (by simp)
    ·rw [if_neg c19] at H
     have c19b0 : decide (x4_1 < (l0_0.length : Int)) = false := decide_eq_false c19
     clear c19
     have H' := asd H
     clear H
     have hnb29 := NB130_131.out
     have hnc29 := NB131_130.out
     have hnb30 := NB130_138.out
     have hnc30 := NB138_130.out
     have hcz31_0 : wr.cell? ⟨gb130, 0, none⟩ = some (.slice A0_0 l0_0.length c0_0) := (blk_cell BK130.out 0).trans rfl
     have hcz31_1 : wr.cell? ⟨gb130, 1, none⟩ = some (.slice A0_1 l0_1.length c0_1) := (blk_cell BK130.out 1).trans rfl
     have hcz31_2 : wr.cell? ⟨gb130, 2, none⟩ = some (.slice A0_2 l0_2.length c0_2) := (blk_cell BK130.out 2).trans rfl
     have hcz31_3 : wr.cell? ⟨gb130, 3, none⟩ = some (.int .u8 a0_3) := (blk_cell BK130.out 3).trans rfl
     have hcz31_4 : wr.cell? ⟨gb130, 4, none⟩ = some (.int .u8 a0_4) := (blk_cell BK130.out 4).trans rfl
     have hcz31_5 : wr.cell? ⟨gb130, 5, none⟩ = some (.int .u8 a0_5) := (blk_cell BK130.out 5).trans rfl
     have hfz31_0 := blk_frozen BK130.out 0
     have hfz31_1 := blk_frozen BK130.out 1
     have hfz31_2 := blk_frozen BK130.out 2
     have hfz31_3 := blk_frozen BK130.out 3
     have hfz31_4 := blk_frozen BK130.out 4
     have hfz31_5 := blk_frozen BK130.out 5
     go_wp2
     go_loopg [5] k1 (fun kq v5 w' => ∃ (x5_2 : Int) (x139001_2 : List (S53)) (u139001 : Value), v5 = .int .i64 x5_2 ∧ Aside0 (parcloselaw03_Part.l1 kq x5_2 l0_0 l0_1 l0_2 a0_3 a0_4 a0_5 x139000_1 x139001_2 y135 a0_3 a0_4 a0_5 = some (r1, r2, r3, r4, r5, r6)) ∧ Aside0 (kq ≤ k1) ∧ Aside0 (Kd.R k51 51 w' w.heap.size (fun _ => True) u139000 x139000_1) ∧ Aside0 (Kd.R k53 53 w' w.heap.size (fun _ => True) u139001 x139001_2) ∧ Aside0 (Kd.R (Kd.int .i64) 3 w' w.heap.size (fun _ => True) (.slice Ao12 y135.length co12) y135) ∧ Aside0 (w'.heap[gb130]? = some (.cells #[(.slice A0_0 l0_0.length c0_0), (.slice A0_1 l0_1.length c0_1), (.slice A0_2 l0_2.length c0_2), .int .u8 a0_3, .int .u8 a0_4, .int .u8 a0_5] 61 (0, 0))) ∧ Aside0 (w'.heap[gb131]? = some (.cells #[(.slice none 0 0), (.slice none 0 0), (.slice none 0 0), .int .u8 0, .int .u8 0, .int .u8 0] 49 (0, 0))) ∧ Aside0 (w'.heap[gb138]? = some (.cells #[u139000, u139001, (.slice Ao12 y135.length co12), .int .u8 a0_3, .int .u8 a0_4, .int .u8 a0_5] 49 (0, 0))) ∧ Aside0 (Below w.heap.size w w'))
     case atStart => exact ⟨(0), (([] : List (S53))), (.slice none 0 0), (by first | rfl | (simp; done) | (simp [*]; done)), H', ⟨Nat.le_refl _⟩, ⟨by (with_reducible repeat (first | apply Kd.R_alloc | apply Kd.R_drewN | apply Kd.R_drew)); exact HO_139000.out⟩, ⟨by first | exact Kd.R_nil _ _ _ _ _ | exact Kd.N_nil _ _ _ _ _ | exact Kd.V_nil _ _ _ _ _ | exact Kd.Q_nil _ _ _ _ _ | exact Kd.S_nil _ _ _ _ _⟩, ⟨by (with_reducible repeat (first | apply Kd.R_alloc | apply Kd.R_drewN | apply Kd.R_drew)); exact HO_139002.out⟩, ⟨by (with_reducible repeat first | apply bn | apply bd | apply ba); exact BK130.out⟩, ⟨by (with_reducible repeat first | apply bn | apply bd | apply ba); exact BK131.out⟩, ⟨by (with_reducible repeat first | apply bn | apply bd | apply ba); exact BK138.out⟩, ⟨by repeat (first | (with_reducible first | exact HB.out | apply wa | apply wn | apply wd | refine ws ?_ GE130.out | refine ws ?_ GE131.out | refine ws ?_ GE138.out) | exact HB.out)⟩⟩
     case round =>
      clear H'
      try clear c1
      try clear p1
      try clear q1
      try clear hx1
      try clear c2
      try clear p2
      try clear c3
      try clear p6
      try clear p13
      try clear q13
      try clear hx13
      try clear c19
      try clear c19b0
      try clear c20
      try clear c20b0
      try clear c21
      try clear c22
      try clear c23
      try clear c29
      try clear c30
      try clear hcz24_0
      try clear hcz24_1
      try clear hcz24_2
      try clear hcz24_3
      try clear hcz24_4
      try clear hcz24_5
      try clear hcz31_0
      try clear hcz31_1
      try clear hcz31_2
      try clear hcz31_3
      try clear hcz31_4
      try clear hcz31_5
      try clear hfz24_0
      try clear hfz24_1
      try clear hfz24_2
      try clear hfz24_3
      try clear hfz24_4
      try clear hfz24_5
      try clear hfz31_0
      try clear hfz31_1
      try clear hfz31_2
      try clear hfz31_3
      try clear hfz31_4
      try clear hfz31_5
      try clear hx139_0
      try clear hx139_1
      try clear hx139_2
      try clear hx139_3
      try clear hx139_4
      try clear hx139_5
      try clear p139
      try clear p2
      try clear q139
      obtain ⟨x5_2, x139001_2, u139001, rfl, HA, HK2, HO_139000, HO_139001, HO_139002, BK130, BK131, BK138, HB⟩ := hrel
      cases gk with
      | zero => exact absurd HA.out (by simp [parcloselaw03_Part.l1])
      | succ k2 =>
       have H := HA.out
       clear HA
       simp only [parcloselaw03_Part.l1] at H
       by_cases c32 : x5_2 < (l0_1.length : Int)
       ·rw [if_pos c32] at H
        have c32b0 : decide (x5_2 < (l0_1.length : Int)) = true := decide_eq_true c32
        clear c32
        by_cases c33 : 0 ≤ x5_2
        ·rw [if_pos c33] at H
         have c33b0 : decide (0 ≤ x5_2) = true := decide_eq_true c33
         clear c33
         by_cases c34 : x139001_2.length < 5864062014805
         ·rw [if_pos c34] at H
          have LMc34 := asd c34
          clear c34
          obtain ⟨y144, hy144⟩ : ∃ y_ : List (S53), y_ = (x139001_2 ++ [(⟨(rd_T57 l0_1 x5_2).f0, (rd_T57 l0_1 x5_2).f1, (rd_T57 l0_1 x5_2).f2⟩ : S53)]) := ⟨_, rfl⟩
          replace H : (parcloselaw03_Part.l1 k2 (wrap64 (x5_2 + 1)) l0_0 l0_1 l0_2 a0_3 a0_4 a0_5 x139000_1 y144 y135 a0_3 a0_4 a0_5) = some (r1, r2, r3, r4, r5, r6) := by first | (rw [hy144]; with_reducible exact H) | (have H2_ := (Option.bind_some _ _).symm.trans H; rw [hy144]; with_reducible exact H2_) | (have H2_ := (Option.bind_some _ _).symm.trans H; with_reducible exact H2_) | with_reducible exact H | (rw [hy144]; exact H) | exact H
          have Ny144 := asd hy144
          clear hy144
          have H' := asd H
          clear H
          have hnb35 := NB130_131.out
          have hnc35 := NB131_130.out
          have hnb36 := NB130_138.out
          have hnc36 := NB138_130.out
          have hcz37_0 : wr.cell? ⟨gb130, 0, none⟩ = some (.slice A0_0 l0_0.length c0_0) := (blk_cell BK130.out 0).trans rfl
          have hcz37_1 : wr.cell? ⟨gb130, 1, none⟩ = some (.slice A0_1 l0_1.length c0_1) := (blk_cell BK130.out 1).trans rfl
          have hcz37_2 : wr.cell? ⟨gb130, 2, none⟩ = some (.slice A0_2 l0_2.length c0_2) := (blk_cell BK130.out 2).trans rfl
          have hcz37_3 : wr.cell? ⟨gb130, 3, none⟩ = some (.int .u8 a0_3) := (blk_cell BK130.out 3).trans rfl
          have hcz37_4 : wr.cell? ⟨gb130, 4, none⟩ = some (.int .u8 a0_4) := (blk_cell BK130.out 4).trans rfl
          have hcz37_5 : wr.cell? ⟨gb130, 5, none⟩ = some (.int .u8 a0_5) := (blk_cell BK130.out 5).trans rfl
          have hfz37_0 := blk_frozen BK130.out 0
          have hfz37_1 := blk_frozen BK130.out 1
          have hfz37_2 := blk_frozen BK130.out 2
          have hfz37_3 := blk_frozen BK130.out 3
          have hfz37_4 := blk_frozen BK130.out 4
          have hfz37_5 := blk_frozen BK130.out 5
          try go_wp2
          have n0_ := asd (Kd.R_drew HO_139000.out)
          have n1_ := asd (Kd.R_drew HO_139001.out)
          have n2_ := asd (Kd.R_drew HO_139002.out)
          have n3_ := asd (blk_drew BK130.out)
          have n4_ := asd (blk_drew BK131.out)
          have n5_ := asd (blk_drew BK138.out)
          have n6_ := asd (below_drew1 HB.out)
          clear HO_139000
          clear HO_139001
          clear HO_139002
          clear BK130
          clear BK131
          clear BK138
          clear HB
          have HO_139000 := n0_
          have HO_139001 := n1_
          have HO_139002 := n2_
          have BK130 := n3_
          have BK131 := n4_
          have BK138 := n5_
          have HB := n6_
          clear n0_ n1_ n2_ n3_ n4_ n5_ n6_
          have p143 : 0 ≤ (x5_2 : Int) := of_decide_eq_true (by assumption)
          have q143 : x5_2 < (l0_1.length : Int) := of_decide_eq_true (by assumption)
          obtain ⟨ad143, e143, hx143_0, hx143_1, hx143_2⟩ := at_T57 HR0_1.out x5_2 p143 q143
          have hw143_2 := hx143_2
          have hw143_1 := hx143_1
          have hw143_0 := hx143_0
          cases e143
          replace hx143_0 := (HB.out.cell (World.block_lt_of_cell? w _ hx143_0)).trans hx143_0
          replace hx143_1 := (HB.out.cell (World.block_lt_of_cell? w _ hx143_1)).trans hx143_1
          replace hx143_2 := (HB.out.cell (World.block_lt_of_cell? w _ hx143_2)).trans hx143_2
          replace p143 := eq_true p143
          replace q143 := eq_true q143
          refine start_ (n := 11) (S := fun w' => w'.cell? ⟨gb138, 0, none⟩ = some (u139000) ∧ w'.cell? ⟨gb138, 1, none⟩ = some (u139001) ∧ w'.cell? ⟨gb138, 2, none⟩ = some (.slice Ao12 y135.length co12) ∧ w'.cell? ⟨gb138, 3, none⟩ = some (.int .u8 a0_3) ∧ w'.cell? ⟨gb138, 4, none⟩ = some (.int .u8 a0_4) ∧ w'.cell? ⟨gb138, 5, none⟩ = some (.int .u8 a0_5) ∧ w'.cell? ⟨gb130, 0, none⟩ = some (.slice A0_0 l0_0.length c0_0) ∧ w'.cell? ⟨gb130, 1, none⟩ = some (.slice (some ad143) l0_1.length c0_1) ∧ w'.cell? ⟨gb130, 2, none⟩ = some (.slice A0_2 l0_2.length c0_2) ∧ w'.cell? ⟨gb130, 3, none⟩ = some (.int .u8 a0_3) ∧ w'.cell? ⟨gb130, 4, none⟩ = some (.int .u8 a0_4) ∧ w'.cell? ⟨gb130, 5, none⟩ = some (.int .u8 a0_5) ∧ w'.cell? (ad143.add ((x5_2).toNat * 3)) = some (.bool ((rd_T57 l0_1 x5_2).f0)) ∧ w'.cell? ⟨(ad143.add ((x5_2).toNat * 3)).block, (ad143.add ((x5_2).toNat * 3)).off + 1, none⟩ = some (.int .i64 ((rd_T57 l0_1 x5_2).f1)) ∧ w'.cell? ⟨(ad143.add ((x5_2).toNat * 3)).block, (ad143.add ((x5_2).toNat * 3)).off + 2, none⟩ = some (.int .i64 ((rd_T57 l0_1 x5_2).f2))) (ds := [10]) #[false, false, false, false, false, false, false, false, false, false, false] (by kernel_rfl) rfl rfl ⟨(blk_cell BK138.out 0).trans rfl, (blk_cell BK138.out 1).trans rfl, (blk_cell BK138.out 2).trans rfl, (blk_cell BK138.out 3).trans rfl, (blk_cell BK138.out 4).trans rfl, (blk_cell BK138.out 5).trans rfl, (blk_cell BK130.out 0).trans rfl, (blk_cell BK130.out 1).trans rfl, (blk_cell BK130.out 2).trans rfl, (blk_cell BK130.out 3).trans rfl, (blk_cell BK130.out 4).trans rfl, (blk_cell BK130.out 5).trans rfl, ((HB.out.cell (World.block_lt_of_cell? w _ hw143_0)).trans hw143_0), ((HB.out.cell (World.block_lt_of_cell? w _ hw143_1)).trans hw143_1), ((HB.out.cell (World.block_lt_of_cell? w _ hw143_2)).trans hw143_2)⟩ (fun hHeld => ?_); refine with_tabW parcloselaw03_Part.tab9 parcloselaw03_Part.bits9 (fun HT_ HW_ => ?_)
          generalize wr.drew = w38 at HO_139000 HO_139001 HO_139002 BK130 BK131 BK138 HB hx143_0 hx143_1 hx143_2 hHeld ⊢
          refine pure_ (i := 0) (N := some 37) (v := ?_) (a' := ?_) #[true, false, false, false, false, false, false, false, false, false, false] rfl rfl (any_of HT_.out (by kernel_rfl)) (fun _ _ _ h => h) (Or.inl ⟨by rfl, ?_⟩) ?_ ?_
          rotate_left
          ·intro w'
           go_simp
           with_reducible rfl
          rotate_left
          ·simp only [Act.put, sB, i64_w, i32_w]
           rfl
          refine pure_ (i := 2) (N := some 39) (v := ?_) (a' := ?_) #[true, false, true, false, false, false, false, false, false, false, false] rfl rfl (any_of HT_.out (by kernel_rfl)) (fun _ _ _ h => h) (Or.inl ⟨by rfl, ?_⟩) ?_ ?_
          rotate_left
          ·intro w'
           go_simp
           with_reducible rfl
          rotate_left
          ·simp only [Act.put, sB, i64_w, i32_w]
           rfl
          refine pure_ (i := 4) (N := some 41) (v := ?_) (a' := ?_) #[true, false, true, false, true, false, false, false, false, false, false] rfl rfl (any_of HT_.out (by kernel_rfl)) (fun _ _ _ h => h) (Or.inl ⟨by rfl, ?_⟩) ?_ ?_
          rotate_left
          ·intro w'
           go_simp
           with_reducible rfl
          rotate_left
          ·simp only [Act.put, sB, i64_w, i32_w]
           rfl
          refine take_ (i := 1) (N := some 38) (v := ?_) (a' := ?_) #[true, true, true, false, true, false, false, false, false, false, false] rfl rfl (take_ofW HT_.out HW_.out (by kernel_rfl)) (fun _ _ _ h => h) (Or.inl ⟨by rfl, ?_⟩) hHeld ?_ ?_
          rotate_left
          ·rintro w' ⟨s0, s1, s2, s3, s4, s5, s6, s7, s8, s9, s10, s11, s12, s13, s14⟩
           go_simp
           with_reducible rfl
          rotate_left
          ·simp only [Act.put, sB, i64_w, i32_w]
           rfl
          refine take_ (i := 3) (N := some 40) (v := ?_) (a' := ?_) #[true, true, true, true, true, false, false, false, false, false, false] rfl rfl (take_ofW HT_.out HW_.out (by kernel_rfl)) (fun _ _ _ h => h) (Or.inl ⟨by rfl, ?_⟩) hHeld ?_ ?_
          rotate_left
          ·rintro w' ⟨s0, s1, s2, s3, s4, s5, s6, s7, s8, s9, s10, s11, s12, s13, s14⟩
           go_simp
           with_reducible rfl
          rotate_left
          ·simp only [Act.put, sB, i64_w, i32_w]
           rfl
          refine pure_ (i := 5) (N := some 42) (v := ?_) (a' := ?_) #[true, true, true, true, true, true, false, false, false, false, false] rfl rfl (any_of HT_.out (by kernel_rfl)) (fun _ _ _ h => h) (Or.inl ⟨by rfl, ?_⟩) ?_ ?_
          rotate_left
          ·intro w'
           go_simp
           with_reducible rfl
          rotate_left
          ·simp only [Act.put, sB, i64_w, i32_w]
           rfl
          refine take_ (i := 6) (N := some 43) (v := ?_) (a' := ?_) #[true, true, true, true, true, true, true, false, false, false, false] rfl rfl (take_ofW HT_.out HW_.out (by kernel_rfl)) (fun _ _ _ h => h) (Or.inl ⟨by rfl, ?_⟩) hHeld ?_ ?_
          rotate_left
          ·rintro w' ⟨s0, s1, s2, s3, s4, s5, s6, s7, s8, s9, s10, s11, s12, s13, s14⟩
           go_simp
           with_reducible rfl
          rotate_left
          ·simp only [Act.put, sB, i64_w, i32_w]
           rfl
          refine one_ (i := 7) (N := some 44) #[true, true, true, true, true, true, true, true, false, false, false] rfl rfl (one_of HT_.out (by kernel_rfl)) (by decide) (fun K hK => ?_)
          refine value_ (w1 := ?_) (v := ?_) (by rfl) rfl ?_ ?_
          rotate_left 2
          ·go_simp
           constructor
           ·rfl
           ·rfl
          refine hK.out _ _ ⟨(blk_cell (blk_alloc BK138.out _) 0).trans rfl, (blk_cell (blk_alloc BK138.out _) 1).trans rfl, (blk_cell (blk_alloc BK138.out _) 2).trans rfl, (blk_cell (blk_alloc BK138.out _) 3).trans rfl, (blk_cell (blk_alloc BK138.out _) 4).trans rfl, (blk_cell (blk_alloc BK138.out _) 5).trans rfl, (blk_cell (blk_alloc BK130.out _) 0).trans rfl, (blk_cell (blk_alloc BK130.out _) 1).trans rfl, (blk_cell (blk_alloc BK130.out _) 2).trans rfl, (blk_cell (blk_alloc BK130.out _) 3).trans rfl, (blk_cell (blk_alloc BK130.out _) 4).trans rfl, (blk_cell (blk_alloc BK130.out _) 5).trans rfl, (World.cell?_alloc_lt _ _ _ (World.block_lt_of_cell? _ _ (((HB.out.cell (World.block_lt_of_cell? w _ hw143_0)).trans hw143_0)))).trans (((HB.out.cell (World.block_lt_of_cell? w _ hw143_0)).trans hw143_0)), (World.cell?_alloc_lt _ _ _ (World.block_lt_of_cell? _ _ (((HB.out.cell (World.block_lt_of_cell? w _ hw143_1)).trans hw143_1)))).trans (((HB.out.cell (World.block_lt_of_cell? w _ hw143_1)).trans hw143_1)), (World.cell?_alloc_lt _ _ _ (World.block_lt_of_cell? _ _ (((HB.out.cell (World.block_lt_of_cell? w _ hw143_2)).trans hw143_2)))).trans (((HB.out.cell (World.block_lt_of_cell? w _ hw143_2)).trans hw143_2))⟩ (fun hHeld => ?_)
          clear hK K
          refine norm_ (a' := ?_) ?_ ?_
          rotate_left
          ·show Act.put _ (some 44) _ = _
           simp only [Act.put, sB, i64_w, i32_w]
           rfl
          refine one_ (i := 8) (N := some 45) #[true, true, true, true, true, true, true, true, true, false, false] rfl rfl (one_of HT_.out (by kernel_rfl)) (by decide) (fun K hK => ?_)
          refine Kd.R_append_step k53 (w0 := w) w.heap.size (by rfl) (.tmp 38) (.tmp 44) 46 53 (.agg #[(.bool false), (.int .i64 0), (.int .i64 0)]) 24 rfl Try.underlying46 info53 rfl (by decide) (by omega) u139001 x139001_2 (⟨(rd_T57 l0_1 x5_2).f0, (rd_T57 l0_1 x5_2).f1, (rd_T57 l0_1 x5_2).f2⟩ : S53) [.bool ((rd_T57 l0_1 x5_2).f0), .int .i64 ((rd_T57 l0_1 x5_2).f1), .int .i64 ((rd_T57 l0_1 x5_2).f2)] (fun _ => True) (fun _ => False) rfl rfl ?aP (fun _ hk => hk.elim) ?aF ?aO ?aB ?aS ?aL ?_
          (case aP => exact k53_mkM _ _ _ (⟨(rd_T57 l0_1 x5_2).f0, (rd_T57 l0_1 x5_2).f1, (rd_T57 l0_1 x5_2).f2⟩ : S53))
          (case aB => exact (by repeat (first | (with_reducible first | exact HB.out | apply wa | apply wn | apply wd | refine ws ?_ GE130.out | refine ws ?_ GE131.out | refine ws ?_ GE138.out) | exact HB.out)))
          (case aF => exact (fun _ _ => trivial))
          (case aO => exact (by (with_reducible repeat (first | apply Kd.R_alloc | apply Kd.R_drewN | apply Kd.R_drew)); exact HO_139001.out))
          (case aS => exact (below_size (by repeat (first | (with_reducible first | exact HB.out | apply wa | apply wn | apply wd | refine ws ?_ GE130.out | refine ws ?_ GE131.out | refine ws ?_ GE138.out) | exact HB.out))))
          (case aL => have := LMc34.out; omega)
          intro v145 w39 ho hb hg hat
          rw [← Ny144.out] at ho
          have n0_ := asd (Kd.R_over' (by (with_reducible repeat (first | apply Kd.R_alloc | apply Kd.R_drewN | apply Kd.R_drew)); exact HO_139000.out) (Kd.R_typed (by (with_reducible repeat (first | apply Kd.R_alloc | apply Kd.R_drewN | apply Kd.R_drew)); exact HO_139001.out)) (by decide) hg)
          have n1_ := asd (Kd.R_over' (by (with_reducible repeat (first | apply Kd.R_alloc | apply Kd.R_drewN | apply Kd.R_drew)); exact HO_139002.out) (Kd.R_typed (by (with_reducible repeat (first | apply Kd.R_alloc | apply Kd.R_drewN | apply Kd.R_drew)); exact HO_139001.out)) (by decide) hg)
          have n2_ := asd (blk_grown (g := gb130) (o := .cells #[.slice A0_0 l0_0.length c0_0, .slice (some ad143) l0_1.length c0_1, .slice A0_2 l0_2.length c0_2, .int .u8 a0_3, .int .u8 a0_4, .int .u8 a0_5] 61 (0, 0)) (by (with_reducible repeat first | apply bn | apply bd | apply ba); exact BK130.out) hg (Kd.R_ne HO_139001.out BK130.out (by decide)))
          have n3_ := asd (blk_grown (g := gb131) (o := .cells #[.slice none 0 0, .slice none 0 0, .slice none 0 0, .int .u8 0, .int .u8 0, .int .u8 0] 49 (0, 0)) (by (with_reducible repeat first | apply bn | apply bd | apply ba); exact BK131.out) hg (Kd.R_ne HO_139001.out BK131.out (by decide)))
          have n4_ := asd (blk_grown (g := gb138) (o := .cells #[u139000, u139001, .slice Ao12 y135.length co12, .int .u8 a0_3, .int .u8 a0_4, .int .u8 a0_5] 49 (0, 0)) (by (with_reducible repeat first | apply bn | apply bd | apply ba); exact BK138.out) hg (Kd.R_ne HO_139001.out BK138.out (by decide)))
          have n5_ := asd (hb)
          have n6_ := asd (ho)
          clear HO_139000
          clear HO_139002
          clear BK130
          clear BK131
          clear BK138
          clear HB
          clear HO_139001
          have HO_139000 := n0_
          have HO_139002 := n1_
          have BK130 := n2_
          have BK131 := n3_
          have BK138 := n4_
          have HB := n5_
          have HO146 := n6_
          clear n0_ n1_ n2_ n3_ n4_ n5_ n6_
          clear ho hb hg hat
          obtain ⟨Ao40, co40, eo40⟩ := Kd.R_slice HO146.out
          (first | subst eo40 | (injection eo40 with f1_ f2_ f3_; have f4_ := f1_.symm; have f5_ := f3_.symm; clear f1_ f2_ f3_; subst f4_; subst f5_))
          refine hK.out _ _ ⟨(blk_cell BK138.out 0).trans rfl, (blk_cell BK138.out 1).trans rfl, (blk_cell BK138.out 2).trans rfl, (blk_cell BK138.out 3).trans rfl, (blk_cell BK138.out 4).trans rfl, (blk_cell BK138.out 5).trans rfl, (blk_cell BK130.out 0).trans rfl, (blk_cell BK130.out 1).trans rfl, (blk_cell BK130.out 2).trans rfl, (blk_cell BK130.out 3).trans rfl, (blk_cell BK130.out 4).trans rfl, (blk_cell BK130.out 5).trans rfl, ((HB.out.cell (World.block_lt_of_cell? w _ hw143_0)).trans hw143_0), ((HB.out.cell (World.block_lt_of_cell? w _ hw143_1)).trans hw143_1), ((HB.out.cell (World.block_lt_of_cell? w _ hw143_2)).trans hw143_2)⟩ (fun hHeld => ?_)
          clear hK K
          refine norm_ (a' := ?_) ?_ ?_
          rotate_left
          ·show Act.put _ (some 45) _ = _
           simp only [Act.put, sB, i64_w, i32_w]
           rfl
          refine pure_ (i := 9) (N := some 46) (v := ?_) (a' := ?_) #[true, true, true, true, true, true, true, true, true, true, false] rfl rfl (any_of HT_.out (by kernel_rfl)) (fun _ _ _ h => h) (Or.inl ⟨by rfl, ?_⟩) ?_ ?_
          rotate_left
          ·intro w'
           go_simp
           with_reducible rfl
          rotate_left
          ·simp only [Act.put, sB, i64_w, i32_w]
           rfl
          refine last_ (i := 10) (N := none) #[true, true, true, true, true, true, true, true, true, true, true] rfl rfl (one_of HT_.out (by kernel_rfl)) (by decide) (fun K hK => ?_)
          have hs41 : w39.cell? ⟨gb138, 1, none⟩ = some (u139001) := (blk_cell BK138.out 1).trans rfl
          have hfs41 := blk_frozen BK138.out 1
          have hns41_0 := NB130_138.out
          have hns41_1 := NB131_138.out
          have hms41_0 := NB138_130.out
          have hms41_1 := NB138_131.out
          refine skip_ (w1 := ?_) (by rfl) rfl ?_ ?_
          rotate_left
          ·go_simp
           rfl
          refine hK.out _ _ ?_
          clear hK K
          refine done_ (done_of HT_.out (by kernel_rfl)) ?_
          try go_wp2
          go_roundg k2
          case measure => have := HK1.out; have := HK2.out; omega
          case rel => exact ⟨(wrap64 (x5_2 + 1)), (y144), (.slice Ao40 y144.length co40), (by first | rfl | (simp; done) | (simp [*]; done)), H', ⟨by have := HK1.out; have := HK2.out; omega⟩, ⟨by (with_reducible repeat (first | apply Kd.R_alloc | apply Kd.R_drewN | apply Kd.R_drew)); exact Kd.R_mono (Kd.R_far (p := ⟨gb138, 1, none⟩) (Kd.R_types HO_139000.out BK138.out (by decide)) (fun _ hk => hk.2) (.slice Ao40 y144.length co40)) (fun _ hk => trivial)⟩, ⟨by (with_reducible repeat (first | apply Kd.R_alloc | apply Kd.R_drewN | apply Kd.R_drew)); exact Kd.R_mono (Kd.R_far (p := ⟨gb138, 1, none⟩) (Kd.R_types HO146.out BK138.out (by decide)) (fun _ hk => hk.2) (.slice Ao40 y144.length co40)) (fun _ hk => trivial)⟩, ⟨by (with_reducible repeat (first | apply Kd.R_alloc | apply Kd.R_drewN | apply Kd.R_drew)); exact Kd.R_mono (Kd.R_far (p := ⟨gb138, 1, none⟩) (Kd.R_types HO_139002.out BK138.out (by decide)) (fun _ hk => hk.2) (.slice Ao40 y144.length co40)) (fun _ hk => trivial)⟩, ⟨by (with_reducible repeat first | apply bn | apply bd | apply ba); refine blk_far ?_ NB130_138.out _; (with_reducible repeat first | apply bn | apply bd | apply ba); exact BK130.out⟩, ⟨by (with_reducible repeat first | apply bn | apply bd | apply ba); refine blk_far ?_ NB131_138.out _; (with_reducible repeat first | apply bn | apply bd | apply ba); exact BK131.out⟩, ⟨by (with_reducible repeat first | apply bn | apply bd | apply ba); refine blk_put (cs := #[u139000, u139001, .slice Ao12 y135.length co12, .int .u8 a0_3, .int .u8 a0_4, .int .u8 a0_5]) ?_ 1 _ rfl; (with_reducible repeat first | apply bn | apply bd | apply ba); exact BK138.out⟩, ⟨by repeat (first | (with_reducible first | exact HB.out | apply wa | apply wn | apply wd | refine ws ?_ GE130.out | refine ws ?_ GE131.out | refine ws ?_ GE138.out) | exact HB.out)⟩⟩
         ·rw [if_neg c34] at H
          exact absurd H (by simp)
        ·rw [if_neg c33] at H
         exact absurd H (by simp)
       ·rw [if_neg c32] at H
        have c32b0 : decide (x5_2 < (l0_1.length : Int)) = false := decide_eq_false c32
        clear c32
        simp only [Option.some.injEq, Prod.mk.injEq] at H
        obtain ⟨rfl, rfl, rfl, rfl, rfl, rfl⟩ := H
        have hnb42 := NB130_131.out
        have hnc42 := NB131_130.out
        have hnb43 := NB130_138.out
        have hnc43 := NB138_130.out
        have hcz44_0 : wr.cell? ⟨gb130, 0, none⟩ = some (.slice A0_0 l0_0.length c0_0) := (blk_cell BK130.out 0).trans rfl
        have hcz44_1 : wr.cell? ⟨gb130, 1, none⟩ = some (.slice A0_1 l0_1.length c0_1) := (blk_cell BK130.out 1).trans rfl
        have hcz44_2 : wr.cell? ⟨gb130, 2, none⟩ = some (.slice A0_2 l0_2.length c0_2) := (blk_cell BK130.out 2).trans rfl
        have hcz44_3 : wr.cell? ⟨gb130, 3, none⟩ = some (.int .u8 a0_3) := (blk_cell BK130.out 3).trans rfl
        have hcz44_4 : wr.cell? ⟨gb130, 4, none⟩ = some (.int .u8 a0_4) := (blk_cell BK130.out 4).trans rfl
        have hcz44_5 : wr.cell? ⟨gb130, 5, none⟩ = some (.int .u8 a0_5) := (blk_cell BK130.out 5).trans rfl
        have hfz44_0 := blk_frozen BK130.out 0
        have hfz44_1 := blk_frozen BK130.out 1
        have hfz44_2 := blk_frozen BK130.out 2
        have hfz44_3 := blk_frozen BK130.out 3
        have hfz44_4 := blk_frozen BK130.out 4
        have hfz44_5 := blk_frozen BK130.out 5
        have hnb45 := NB138_131.out
        have hnc45 := NB131_138.out
        have hcz46_0 : wr.cell? ⟨gb138, 0, none⟩ = some (u139000) := (blk_cell BK138.out 0).trans rfl
        have hcz46_1 : wr.cell? ⟨gb138, 1, none⟩ = some (u139001) := (blk_cell BK138.out 1).trans rfl
        have hcz46_2 : wr.cell? ⟨gb138, 2, none⟩ = some (.slice Ao12 y135.length co12) := (blk_cell BK138.out 2).trans rfl
        have hcz46_3 : wr.cell? ⟨gb138, 3, none⟩ = some (.int .u8 a0_3) := (blk_cell BK138.out 3).trans rfl
        have hcz46_4 : wr.cell? ⟨gb138, 4, none⟩ = some (.int .u8 a0_4) := (blk_cell BK138.out 4).trans rfl
        have hcz46_5 : wr.cell? ⟨gb138, 5, none⟩ = some (.int .u8 a0_5) := (blk_cell BK138.out 5).trans rfl
        have hfz46_0 := blk_frozen BK138.out 0
        have hfz46_1 := blk_frozen BK138.out 1
        have hfz46_2 := blk_frozen BK138.out 2
        have hfz46_3 := blk_frozen BK138.out 3
        have hfz46_4 := blk_frozen BK138.out 4
        have hfz46_5 := blk_frozen BK138.out 5
        obtain ⟨Ao47, co47, eo47⟩ := Kd.R_slice HO_139000.out
        subst eo47
        have hcz48_0 : wr.cell? ⟨gb131, 0, none⟩ = some (.slice none 0 0) := (blk_cell BK131.out 0).trans rfl
        have hcz48_1 : wr.cell? ⟨gb131, 1, none⟩ = some (.slice none 0 0) := (blk_cell BK131.out 1).trans rfl
        have hcz48_2 : wr.cell? ⟨gb131, 2, none⟩ = some (.slice none 0 0) := (blk_cell BK131.out 2).trans rfl
        have hcz48_3 : wr.cell? ⟨gb131, 3, none⟩ = some (.int .u8 0) := (blk_cell BK131.out 3).trans rfl
        have hcz48_4 : wr.cell? ⟨gb131, 4, none⟩ = some (.int .u8 0) := (blk_cell BK131.out 4).trans rfl
        have hcz48_5 : wr.cell? ⟨gb131, 5, none⟩ = some (.int .u8 0) := (blk_cell BK131.out 5).trans rfl
        have hfz48_0 := blk_frozen BK131.out 0
        have hfz48_1 := blk_frozen BK131.out 1
        have hfz48_2 := blk_frozen BK131.out 2
        have hfz48_3 := blk_frozen BK131.out 3
        have hfz48_4 := blk_frozen BK131.out 4
        have hfz48_5 := blk_frozen BK131.out 5
        obtain ⟨Ao49, co49, eo49⟩ := Kd.R_slice HO_139001.out
        subst eo49
        go_wp2
        refine bodyPost_ret (results_cell_row rfl _ _ gb131 49 #[.slice Ao47 x139000_1.length co47, .slice Ao49 x139001_2.length co49, .slice Ao12 y135.length co12, .int .u8 a0_3, .int .u8 a0_4, .int .u8 a0_5] (0, 0) _ rfl (by (with_reducible repeat first | apply bn | apply bd | apply ba); refine blk_put (cs := #[.slice Ao47 x139000_1.length co47, .slice Ao49 x139001_2.length co49, .slice Ao12 y135.length co12, .int .u8 a0_3, .int .u8 a0_4, .int .u8 0]) ?_ 5 _ rfl; (with_reducible repeat first | apply bn | apply bd | apply ba); refine blk_put (cs := #[.slice Ao47 x139000_1.length co47, .slice Ao49 x139001_2.length co49, .slice Ao12 y135.length co12, .int .u8 a0_3, .int .u8 0, .int .u8 0]) ?_ 4 _ rfl; (with_reducible repeat first | apply bn | apply bd | apply ba); refine blk_put (cs := #[.slice Ao47 x139000_1.length co47, .slice Ao49 x139001_2.length co49, .slice Ao12 y135.length co12, .int .u8 0, .int .u8 0, .int .u8 0]) ?_ 3 _ rfl; (with_reducible repeat first | apply bn | apply bd | apply ba); refine blk_put (cs := #[.slice Ao47 x139000_1.length co47, .slice Ao49 x139001_2.length co49, .slice none 0 0, .int .u8 0, .int .u8 0, .int .u8 0]) ?_ 2 _ rfl; (with_reducible repeat first | apply bn | apply bd | apply ba); refine blk_put (cs := #[.slice Ao47 x139000_1.length co47, .slice none 0 0, .slice none 0 0, .int .u8 0, .int .u8 0, .int .u8 0]) ?_ 1 _ rfl; (with_reducible repeat first | apply bn | apply bd | apply ba); refine blk_put (cs := #[.slice none 0 0, .slice none 0 0, .slice none 0 0, .int .u8 0, .int .u8 0, .int .u8 0]) ?_ 0 _ rfl; (with_reducible repeat first | apply bn | apply bd | apply ba); exact BK131.out) Try.underlying49 rfl (by kernel_rfl)) rfl ?_
        exact ⟨_, _, _, by first | rfl | (simp [*] <;> rfl), by (with_reducible repeat (first | apply Kd.R_alloc | apply Kd.R_drewN | apply Kd.R_drew)); exact Kd.R_mono (Kd.R_far (p := ⟨gb131, 5, none⟩) (Kd.R_far (p := ⟨gb131, 4, none⟩) (Kd.R_far (p := ⟨gb131, 3, none⟩) (Kd.R_far (p := ⟨gb131, 2, none⟩) (Kd.R_far (p := ⟨gb131, 1, none⟩) (Kd.R_far (p := ⟨gb131, 0, none⟩) (Kd.R_types HO_139000.out BK131.out (by decide)) (fun _ hk => hk.2) (.slice Ao47 x139000_1.length co47)) (fun _ hk => hk.2) (.slice Ao49 x139001_2.length co49)) (fun _ hk => hk.2) (.slice Ao12 y135.length co12)) (fun _ hk => hk.2) (.int .u8 a0_3)) (fun _ hk => hk.2) (.int .u8 a0_4)) (fun _ hk => hk.2) (.int .u8 a0_5)) (fun _ hk => trivial), by (with_reducible repeat (first | apply Kd.R_alloc | apply Kd.R_drewN | apply Kd.R_drew)); exact Kd.R_mono (Kd.R_far (p := ⟨gb131, 5, none⟩) (Kd.R_far (p := ⟨gb131, 4, none⟩) (Kd.R_far (p := ⟨gb131, 3, none⟩) (Kd.R_far (p := ⟨gb131, 2, none⟩) (Kd.R_far (p := ⟨gb131, 1, none⟩) (Kd.R_far (p := ⟨gb131, 0, none⟩) (Kd.R_types HO_139001.out BK131.out (by decide)) (fun _ hk => hk.2) (.slice Ao47 x139000_1.length co47)) (fun _ hk => hk.2) (.slice Ao49 x139001_2.length co49)) (fun _ hk => hk.2) (.slice Ao12 y135.length co12)) (fun _ hk => hk.2) (.int .u8 a0_3)) (fun _ hk => hk.2) (.int .u8 a0_4)) (fun _ hk => hk.2) (.int .u8 a0_5)) (fun _ hk => trivial), by (with_reducible repeat (first | apply Kd.R_alloc | apply Kd.R_drewN | apply Kd.R_drew)); exact Kd.R_mono (Kd.R_far (p := ⟨gb131, 5, none⟩) (Kd.R_far (p := ⟨gb131, 4, none⟩) (Kd.R_far (p := ⟨gb131, 3, none⟩) (Kd.R_far (p := ⟨gb131, 2, none⟩) (Kd.R_far (p := ⟨gb131, 1, none⟩) (Kd.R_far (p := ⟨gb131, 0, none⟩) (Kd.R_types HO_139002.out BK131.out (by decide)) (fun _ hk => hk.2) (.slice Ao47 x139000_1.length co47)) (fun _ hk => hk.2) (.slice Ao49 x139001_2.length co49)) (fun _ hk => hk.2) (.slice Ao12 y135.length co12)) (fun _ hk => hk.2) (.int .u8 a0_3)) (fun _ hk => hk.2) (.int .u8 a0_4)) (fun _ hk => hk.2) (.int .u8 a0_5)) (fun _ hk => trivial), by repeat (first | (with_reducible first | exact HB.out | apply wa | apply wn | apply wd | refine ws ?_ GE130.out | refine ws ?_ GE131.out | refine ws ?_ GE138.out) | exact HB.out)⟩
 ·rw [if_neg c2] at H
  exact absurd H (by simp)
end Go.Proofs.Ytmjhnmdmopmfjaa.Fn
namespace Go.Proofs.Ytmjhnmdmopmfjaa.Fn
open Go.RowKit Go.Proofs.YtmjhnmdmopmfjaaW.PrintWords Go.Proofs.YtmjhnmdmopmfjaaW.PrintLast Go.Proofs.YtmjhnmdmopmfjaaW.PrintMore
attribute [local go_sem] max2_int min2_int max_two min_two max_three min_three max_four min_four
set_option linter.unusedVariables false
set_option linter.unusedSimpArgs false
mutual
def parcloselaw03_Config.l0 : Nat → Int → Int → Int → List (S77) → List (S61) → List (S78) → Int → Int → List (S42) → Option (Int × Int × (List (S42)) × (List (S49)) × (List (S44)))
 | 0, _, _, _, _, _, _, _, _, _ => none
 | k + 1, x4, x148000, x148001, x148002, x148003, x148004, x150000, x150001, x150002 => if x4 < (x148002.length : Int) then (if 0 ≤ x4 then (if x150002.length < 5864062014805 then (parcloselaw03_Config.l0 k (wrap64 (x4 + 1)) x148000 x148001 x148002 x148003 x148004 x150000 x150001 (x150002 ++ [(⟨(rd_T77 x148002 x4).f0, (rd_T77 x148002 x4).f1, (rd_T77 x148002 x4).f2⟩ : S42)])) else (none)) else (none)) else (parcloselaw03_Config.l1 k 0 x148000 x148001 x148002 x148003 x148004 x150000 x150001 x150002 ([] : List (S49)))
def parcloselaw03_Config.l1 : Nat → Int → Int → Int → List (S77) → List (S61) → List (S78) → Int → Int → List (S42) → List (S49) → Option (Int × Int × (List (S42)) × (List (S49)) × (List (S44)))
 | 0, _, _, _, _, _, _, _, _, _, _ => none
 | k + 1, x5, x148000, x148001, x148002, x148003, x148004, x150000, x150001, x150002, x150003 => if x5 < (x148003.length : Int) then (if 0 ≤ x5 then ((parcloselaw03_Part.f k ((rd_T61 x148003 x5).f0) ((rd_T61 x148003 x5).f1) ((rd_T61 x148003 x5).f2) ((rd_T61 x148003 x5).f3.f0) ((rd_T61 x148003 x5).f3.f1) ((rd_T61 x148003 x5).f3.f2)).bind fun bt155 => (if x150003.length < 1759218604441 then (parcloselaw03_Config.l1 k (wrap64 (x5 + 1)) x148000 x148001 x148002 x148003 x148004 x150000 x150001 x150002 (x150003 ++ [(⟨bt155.1, bt155.2.1, bt155.2.2.1, (⟨bt155.2.2.2.1, bt155.2.2.2.2.1, bt155.2.2.2.2.2⟩ : S47)⟩ : S49)])) else (none))) else (none)) else (parcloselaw03_Config.l2 k 0 x148000 x148001 x148002 x148003 x148004 x150000 x150001 x150002 x150003 ([] : List (S44)))
def parcloselaw03_Config.l2 : Nat → Int → Int → Int → List (S77) → List (S61) → List (S78) → Int → Int → List (S42) → List (S49) → List (S44) → Option (Int × Int × (List (S42)) × (List (S49)) × (List (S44)))
 | 0, _, _, _, _, _, _, _, _, _, _, _ => none
 | k + 1, x6, x148000, x148001, x148002, x148003, x148004, x150000, x150001, x150002, x150003, x150004 => if x6 < (x148004.length : Int) then (if 0 ≤ x6 then (if x150004.length < 4398046511104 then (parcloselaw03_Config.l2 k (wrap64 (x6 + 1)) x148000 x148001 x148002 x148003 x148004 x150000 x150001 x150002 x150003 (x150004 ++ [(⟨(rd_T78 x148004 x6).f0, (rd_T78 x148004 x6).f1, (rd_T78 x148004 x6).f2, (rd_T78 x148004 x6).f3⟩ : S44)])) else (none)) else (none)) else (some (x150000, x150001, x150002, x150003, x150004))
end
def parcloselaw03_Config.f (k : Nat) (a0_0 : Int) (a0_1 : Int) (l0_2 : List (S77)) (l0_3 : List (S61)) (l0_4 : List (S78)) : Option (Int × Int × (List (S42)) × (List (S49)) × (List (S44))) := parcloselaw03_Config.l0 k 0 a0_0 a0_1 l0_2 l0_3 l0_4 a0_0 a0_1 ([] : List (S42))
def parcloselaw03_Config.T5 : Bool × List (List Nat × List Nat) := (true, [([], []), ([0], [0]), ([], []), ([2], [2]), ([], []), ([3, 4], [3, 4]), ([5], [5]), ([6], [6]), ([1, 7], [1, 7]), ([0, 1, 2, 3, 4, 5, 6, 7, 8], []), ([9, 8, 8, 0, 1, 2, 3, 4, 5, 6, 7, 8], [8, 9])])
def parcloselaw03_Config.B5 : List Nat := [0, 1, 0, 4, 0, 28, 60, 124, 255, 511, 1023]
theorem parcloselaw03_Config.tab5 : rtab .any (opsOf Try.f17 5) = parcloselaw03_Config.T5 := by kernel_rfl
theorem parcloselaw03_Config.bits5 : waitsOk parcloselaw03_Config.T5.2 parcloselaw03_Config.B5 = true := by kernel_rfl
def parcloselaw03_Config.T9 : Bool × List (List Nat × List Nat) := (true, [([], []), ([0], [0]), ([], []), ([2], [2]), ([], []), ([3, 4], [3, 4]), ([5], [5]), ([6], [6]), ([7], [7]), ([1, 8, 7], [1, 8]), ([0, 1, 2, 3, 4, 5, 6, 7, 8, 9], []), ([10, 9, 9, 0, 1, 2, 3, 4, 5, 6, 7, 8, 9], [9, 10])])
def parcloselaw03_Config.B9 : List Nat := [0, 1, 0, 4, 0, 28, 60, 124, 252, 511, 1023, 2047]
theorem parcloselaw03_Config.tab9 : rtab .any (opsOf Try.f17 9) = parcloselaw03_Config.T9 := by kernel_rfl
theorem parcloselaw03_Config.bits9 : waitsOk parcloselaw03_Config.T9.2 parcloselaw03_Config.B9 = true := by kernel_rfl
def parcloselaw03_Config.T13 : Bool × List (List Nat × List Nat) := (true, [([], []), ([0], [0]), ([], []), ([2], [2]), ([], []), ([3, 4], [3, 4]), ([5], [5]), ([6], [6]), ([1, 7], [1, 7]), ([0, 1, 2, 3, 4, 5, 6, 7, 8], []), ([9, 8, 8, 0, 1, 2, 3, 4, 5, 6, 7, 8], [8, 9])])
def parcloselaw03_Config.B13 : List Nat := [0, 1, 0, 4, 0, 28, 60, 124, 255, 511, 1023]
theorem parcloselaw03_Config.tab13 : rtab .any (opsOf Try.f17 13) = parcloselaw03_Config.T13 := by kernel_rfl
theorem parcloselaw03_Config.bits13 : waitsOk parcloselaw03_Config.T13.2 parcloselaw03_Config.B13 = true := by kernel_rfl
set_option maxHeartbeats 8000000 in
set_option maxRecDepth 100000 in
theorem parcloselaw03_Config.calls (k : Nat) (a0_0 : Int) (a0_1 : Int) (A0_2 : Option Addr) (c0_2 : Nat) (l0_2 : List (S77)) (A0_3 : Option Addr) (c0_3 : Nat) (l0_3 : List (S61)) (A0_4 : Option Addr) (c0_4 : Nat) (l0_4 : List (S78)) (r1 : Int) (r2 : Int) (r3 : List (S42)) (r4 : List (S49)) (r5 : List (S44)) (w : World) (hr0_2 : Kd.C k77 w A0_2 l0_2.length l0_2) (hc0_2 : l0_2.length ≤ c0_2) (hr0_3 : Kd.C k61 w A0_3 l0_3.length l0_3) (hc0_3 : l0_3.length ≤ c0_3) (hr0_4 : Kd.C k78 w A0_4 l0_4.length l0_4) (hc0_4 : l0_4.length ≤ c0_4) (h : parcloselaw03_Config.f k a0_0 a0_1 l0_2 l0_3 l0_4 = some (r1, r2, r3, r4, r5)) :
  Calls Try.prog 17 #[.agg #[.int .i64 a0_0, .int .i64 a0_1, .slice A0_2 l0_2.length c0_2, .slice A0_3 l0_3.length c0_3, .slice A0_4 l0_4.length c0_4]] w fun e w' => ∃ v2_ v3_ v4_ : Value, e = .returned (.agg #[.int .i64 r1, .int .i64 r2, v2_, v3_, v4_]) ∧ Kd.R k42 42 w' w.heap.size (fun _ => True) v2_ r3 ∧ Kd.S k49 49 w' w.heap.size (fun _ => True) v3_ r4 ∧ Kd.R k44 44 w' w.heap.size (fun _ => True) v4_ r5 ∧ Below w.heap.size w w' := by
 have hu26 := Try.underlying26
 have hu34 := Try.underlying34
 have hu77 := Try.underlying77
 have hu61 := Try.underlying61
 have hu78 := Try.underlying78
 have HR0_2 := asd hr0_2
 have HC0_2 := asd hc0_2
 clear hr0_2 hc0_2
 have HR0_3 := asd hr0_3
 have HC0_3 := asd hc0_3
 clear hr0_3 hc0_3
 have HR0_4 := asd hr0_4
 have HC0_4 := asd hc0_4
 clear hr0_4 hc0_4
 have HB := asd (Below.refl w.heap.size w)
 have H : (parcloselaw03_Config.l0 k 0 a0_0 a0_1 l0_2 l0_3 l0_4 a0_0 a0_1 ([] : List (S42))) = some (r1, r2, r3, r4, r5) := h
 clear h
 have H' := asd H
 clear H
 go_enter Try.func17, Try.ntmps17
 go_wp2_with (first | ((with_reducible refine gate_dst (N := 1) rfl ?_); refine box_event ?hg (N := 1) ?hd (cs := #[.int .i64 a0_0, .int .i64 a0_1, .slice A0_2 l0_2.length c0_2, .slice A0_3 l0_3.length c0_3, .slice A0_4 l0_4.length c0_4]) (t := 26) ?hr ?_; (case hd => rfl); (case hg => rfl); (case hr => first | (go_simp; done) | (go_simp; rfl)); intro gb147 hg w2 hbox hb; have n0_ := asd (below_step (by repeat (first | (with_reducible first | exact HB.out | apply wa | apply wn | apply wd) | exact HB.out)) hb); have n1_ := asd (hbox); have n2_ := asd ((by rw [hg]; exact (below_size (by repeat (first | (with_reducible first | exact HB.out | apply wa | apply wn | apply wd) | exact HB.out))) : w.heap.size ≤ gb147)); have n3_ := asd ((by rw [hg]; exact (below_size (by repeat (first | (with_reducible first | exact HB.out | apply wa | apply wn | apply wd) | exact HB.out))) : w.heap.size ≤ gb147)); clear HB; have HB := n0_; have BK147 := n1_; have GW147 := n2_; have GE147 := n3_; clear n0_ n1_ n2_ n3_; clear hb hbox hg) | ((with_reducible refine gate_dst (N := 2) rfl ?_); refine box_event ?hg (N := 2) ?hd (cs := #[.int .i64 0, .int .i64 0, .slice none 0 0, .slice none 0 0, .slice none 0 0]) (t := 34) ?hr ?_; (case hd => rfl); (case hg => rfl); (case hr => first | (go_simp; done) | (go_simp; rfl)); intro gb148 hg w3 hbox hb; have n0_ := asd (blk_below (g := gb147) (o := .cells #[.int .i64 a0_0, .int .i64 a0_1, .slice A0_2 l0_2.length c0_2, .slice A0_3 l0_3.length c0_3, .slice A0_4 l0_4.length c0_4] 26 (0, 0)) (by (with_reducible repeat first | apply bn | apply bd | apply ba); exact BK147.out) hb); have n1_ := asd (below_step (by repeat (first | (with_reducible first | exact HB.out | apply wa | apply wn | apply wd | refine ws ?_ GE147.out) | exact HB.out)) hb); have n2_ := asd (hbox); have n3_ := asd ((by rw [hg]; exact (below_size (by repeat (first | (with_reducible first | exact HB.out | apply wa | apply wn | apply wd | refine ws ?_ GE147.out) | exact HB.out))) : w.heap.size ≤ gb148)); have n4_ := asd ((by rw [hg]; exact (below_size (by repeat (first | (with_reducible first | exact HB.out | apply wa | apply wn | apply wd | refine ws ?_ GE147.out) | exact HB.out))) : w.heap.size ≤ gb148)); have n5_ := asd ((by rw [hg]; exact Nat.ne_of_lt (blk_lt (g := gb147) (o := .cells #[.int .i64 a0_0, .int .i64 a0_1, .slice A0_2 l0_2.length c0_2, .slice A0_3 l0_3.length c0_3, .slice A0_4 l0_4.length c0_4] 26 (0, 0)) (by (with_reducible repeat first | apply bn | apply bd | apply ba); exact BK147.out)) : gb147 ≠ gb148)); have n6_ := asd ((by rw [hg]; exact Nat.ne_of_gt (blk_lt (g := gb147) (o := .cells #[.int .i64 a0_0, .int .i64 a0_1, .slice A0_2 l0_2.length c0_2, .slice A0_3 l0_3.length c0_3, .slice A0_4 l0_4.length c0_4] 26 (0, 0)) (by (with_reducible repeat first | apply bn | apply bd | apply ba); exact BK147.out)) : gb148 ≠ gb147)); clear BK147; clear HB; have BK147 := n0_; have HB := n1_; have BK148 := n2_; have GW148 := n3_; have GE148 := n4_; have NB147_148 := n5_; have NB148_147 := n6_; clear n0_ n1_ n2_ n3_ n4_ n5_ n6_; clear hb hbox hg; have hnb4 := NB147_148.out; have hnc4 := NB148_147.out; have hcz5_0 : w3.cell? ⟨gb147, 0, none⟩ = some (.int .i64 a0_0) := (blk_cell BK147.out 0).trans rfl; have hcz5_1 : w3.cell? ⟨gb147, 1, none⟩ = some (.int .i64 a0_1) := (blk_cell BK147.out 1).trans rfl; have hcz5_2 : w3.cell? ⟨gb147, 2, none⟩ = some (.slice A0_2 l0_2.length c0_2) := (blk_cell BK147.out 2).trans rfl; have hcz5_3 : w3.cell? ⟨gb147, 3, none⟩ = some (.slice A0_3 l0_3.length c0_3) := (blk_cell BK147.out 3).trans rfl; have hcz5_4 : w3.cell? ⟨gb147, 4, none⟩ = some (.slice A0_4 l0_4.length c0_4) := (blk_cell BK147.out 4).trans rfl; have hfz5_0 := blk_frozen BK147.out 0; have hfz5_1 := blk_frozen BK147.out 1; have hfz5_2 := blk_frozen BK147.out 2; have hfz5_3 := blk_frozen BK147.out 3; have hfz5_4 := blk_frozen BK147.out 4) | ((with_reducible refine gate_dst (N := 3) rfl ?_); refine box_event ?hg (N := 3) ?hd (cs := #[.int .i64 0, .int .i64 0, .slice none 0 0, .slice none 0 0, .slice none 0 0]) (t := 34) ?hr ?_; (case hd => rfl); (case hg => rfl); (case hr => first | (go_simp; done) | (go_simp; rfl)); intro gb149 hg w6 hbox hb; have n0_ := asd (blk_below (g := gb147) (o := .cells #[.int .i64 a0_0, .int .i64 a0_1, .slice A0_2 l0_2.length c0_2, .slice A0_3 l0_3.length c0_3, .slice A0_4 l0_4.length c0_4] 26 (0, 0)) (by (with_reducible repeat first | apply bn | apply bd | apply ba); exact BK147.out) hb); have n1_ := asd (blk_below (g := gb148) (o := .cells #[.int .i64 0, .int .i64 0, .slice none 0 0, .slice none 0 0, .slice none 0 0] 34 (0, 0)) (by (with_reducible repeat first | apply bn | apply bd | apply ba); exact BK148.out) hb); have n2_ := asd (below_step (by repeat (first | (with_reducible first | exact HB.out | apply wa | apply wn | apply wd | refine ws ?_ GE147.out | refine ws ?_ GE148.out) | exact HB.out)) hb); have n3_ := asd (hbox); have n4_ := asd ((by rw [hg]; exact (below_size (by repeat (first | (with_reducible first | exact HB.out | apply wa | apply wn | apply wd | refine ws ?_ GE147.out | refine ws ?_ GE148.out) | exact HB.out))) : w.heap.size ≤ gb149)); have n5_ := asd ((by rw [hg]; exact (below_size (by repeat (first | (with_reducible first | exact HB.out | apply wa | apply wn | apply wd | refine ws ?_ GE147.out | refine ws ?_ GE148.out) | exact HB.out))) : w.heap.size ≤ gb149)); have n6_ := asd ((by rw [hg]; exact Nat.ne_of_lt (blk_lt (g := gb147) (o := .cells #[.int .i64 a0_0, .int .i64 a0_1, .slice A0_2 l0_2.length c0_2, .slice A0_3 l0_3.length c0_3, .slice A0_4 l0_4.length c0_4] 26 (0, 0)) (by (with_reducible repeat first | apply bn | apply bd | apply ba); exact BK147.out)) : gb147 ≠ gb149)); have n7_ := asd ((by rw [hg]; exact Nat.ne_of_gt (blk_lt (g := gb147) (o := .cells #[.int .i64 a0_0, .int .i64 a0_1, .slice A0_2 l0_2.length c0_2, .slice A0_3 l0_3.length c0_3, .slice A0_4 l0_4.length c0_4] 26 (0, 0)) (by (with_reducible repeat first | apply bn | apply bd | apply ba); exact BK147.out)) : gb149 ≠ gb147)); have n8_ := asd ((by rw [hg]; exact Nat.ne_of_lt (blk_lt (g := gb148) (o := .cells #[.int .i64 0, .int .i64 0, .slice none 0 0, .slice none 0 0, .slice none 0 0] 34 (0, 0)) (by (with_reducible repeat first | apply bn | apply bd | apply ba); exact BK148.out)) : gb148 ≠ gb149)); have n9_ := asd ((by rw [hg]; exact Nat.ne_of_gt (blk_lt (g := gb148) (o := .cells #[.int .i64 0, .int .i64 0, .slice none 0 0, .slice none 0 0, .slice none 0 0] 34 (0, 0)) (by (with_reducible repeat first | apply bn | apply bd | apply ba); exact BK148.out)) : gb149 ≠ gb148)); clear BK147; clear BK148; clear HB; have BK147 := n0_; have BK148 := n1_; have HB := n2_; have BK149 := n3_; have GW149 := n4_; have GE149 := n5_; have NB147_149 := n6_; have NB149_147 := n7_; have NB148_149 := n8_; have NB149_148 := n9_; clear n0_ n1_ n2_ n3_ n4_ n5_ n6_ n7_ n8_ n9_; clear hb hbox hg; have hnb7 := NB149_147.out; have hnc7 := NB147_149.out; have hnb8 := NB149_148.out; have hnc8 := NB148_149.out; have hcz9_0 : w6.cell? ⟨gb149, 0, none⟩ = some (.int .i64 0) := (blk_cell BK149.out 0).trans rfl; have hcz9_1 : w6.cell? ⟨gb149, 1, none⟩ = some (.int .i64 0) := (blk_cell BK149.out 1).trans rfl; have hcz9_2 : w6.cell? ⟨gb149, 2, none⟩ = some (.slice none 0 0) := (blk_cell BK149.out 2).trans rfl; have hcz9_3 : w6.cell? ⟨gb149, 3, none⟩ = some (.slice none 0 0) := (blk_cell BK149.out 3).trans rfl; have hcz9_4 : w6.cell? ⟨gb149, 4, none⟩ = some (.slice none 0 0) := (blk_cell BK149.out 4).trans rfl; have hfz9_0 := blk_frozen BK149.out 0; have hfz9_1 := blk_frozen BK149.out 1; have hfz9_2 := blk_frozen BK149.out 2; have hfz9_3 := blk_frozen BK149.out 3; have hfz9_4 := blk_frozen BK149.out 4))
 go_loopg [4] k (fun kq v4 w' => ∃ (x4_1 : Int) (x150002_1 : List (S42)) (u150002 : Value), v4 = .int .i64 x4_1 ∧ Aside0 (parcloselaw03_Config.l0 kq x4_1 a0_0 a0_1 l0_2 l0_3 l0_4 a0_0 a0_1 x150002_1 = some (r1, r2, r3, r4, r5)) ∧ Aside0 (kq ≤ k) ∧ Aside0 (Kd.R k42 42 w' w.heap.size (fun _ => True) u150002 x150002_1) ∧ Aside0 (w'.heap[gb147]? = some (.cells #[.int .i64 a0_0, .int .i64 a0_1, (.slice A0_2 l0_2.length c0_2), (.slice A0_3 l0_3.length c0_3), (.slice A0_4 l0_4.length c0_4)] 26 (0, 0))) ∧ Aside0 (w'.heap[gb148]? = some (.cells #[.int .i64 0, .int .i64 0, (.slice none 0 0), (.slice none 0 0), (.slice none 0 0)] 34 (0, 0))) ∧ Aside0 (w'.heap[gb149]? = some (.cells #[.int .i64 a0_0, .int .i64 a0_1, u150002, (.slice none 0 0), (.slice none 0 0)] 34 (0, 0))) ∧ Aside0 (Below w.heap.size w w'))
 case atStart => exact ⟨(0), (([] : List (S42))), (.slice none 0 0), (by first | rfl | (simp; done) | (simp [*]; done)), H', ⟨Nat.le_refl _⟩, ⟨by first | exact Kd.R_nil _ _ _ _ _ | exact Kd.N_nil _ _ _ _ _ | exact Kd.V_nil _ _ _ _ _ | exact Kd.Q_nil _ _ _ _ _ | exact Kd.S_nil _ _ _ _ _⟩, ⟨by (with_reducible repeat first | apply bn | apply bd | apply ba); refine blk_far ?_ NB147_149.out _; (with_reducible repeat first | apply bn | apply bd | apply ba); refine blk_far ?_ NB147_149.out _; (with_reducible repeat first | apply bn | apply bd | apply ba); refine blk_far ?_ NB147_149.out _; (with_reducible repeat first | apply bn | apply bd | apply ba); refine blk_far ?_ NB147_149.out _; (with_reducible repeat first | apply bn | apply bd | apply ba); refine blk_far ?_ NB147_149.out _; (with_reducible repeat first | apply bn | apply bd | apply ba); exact BK147.out⟩, ⟨by (with_reducible repeat first | apply bn | apply bd | apply ba); refine blk_far ?_ NB148_149.out _; (with_reducible repeat first | apply bn | apply bd | apply ba); refine blk_far ?_ NB148_149.out _; (with_reducible repeat first | apply bn | apply bd | apply ba); refine blk_far ?_ NB148_149.out _; (with_reducible repeat first | apply bn | apply bd | apply ba); refine blk_far ?_ NB148_149.out _; (with_reducible repeat first | apply bn | apply bd | apply ba); refine blk_far ?_ NB148_149.out _; (with_reducible repeat first | apply bn | apply bd | apply ba); exact BK148.out⟩, ⟨by (with_reducible repeat first | apply bn | apply bd | apply ba); refine blk_put (cs := #[.int .i64 a0_0, .int .i64 a0_1, .slice none 0 0, .slice none 0 0, .slice none 0 0]) ?_ 4 _ rfl; (with_reducible repeat first | apply bn | apply bd | apply ba); refine blk_put (cs := #[.int .i64 a0_0, .int .i64 a0_1, .slice none 0 0, .slice none 0 0, .slice none 0 0]) ?_ 3 _ rfl; (with_reducible repeat first | apply bn | apply bd | apply ba); refine blk_put (cs := #[.int .i64 a0_0, .int .i64 a0_1, .slice none 0 0, .slice none 0 0, .slice none 0 0]) ?_ 2 _ rfl; (with_reducible repeat first | apply bn | apply bd | apply ba); refine blk_put (cs := #[.int .i64 a0_0, .int .i64 0, .slice none 0 0, .slice none 0 0, .slice none 0 0]) ?_ 1 _ rfl; (with_reducible repeat first | apply bn | apply bd | apply ba); refine blk_put (cs := #[.int .i64 0, .int .i64 0, .slice none 0 0, .slice none 0 0, .slice none 0 0]) ?_ 0 _ rfl; (with_reducible repeat first | apply bn | apply bd | apply ba); exact BK149.out⟩, ⟨by repeat (first | (with_reducible first | exact HB.out | apply wa | apply wn | apply wd | refine ws ?_ GE147.out | refine ws ?_ GE148.out | refine ws ?_ GE149.out) | exact HB.out)⟩⟩
 case round =>
  clear H'
  try clear c1
  try clear p2
  try clear c4
  try clear c7
  try clear c8
  try clear hcz5_0
  try clear hcz5_1
  try clear hcz5_2
  try clear hcz5_3
  try clear hcz5_4
  try clear hcz9_0
  try clear hcz9_1
  try clear hcz9_2
  try clear hcz9_3
  try clear hcz9_4
  try clear hfz5_0
  try clear hfz5_1
  try clear hfz5_2
  try clear hfz5_3
  try clear hfz5_4
  try clear hfz9_0
  try clear hfz9_1
  try clear hfz9_2
  try clear hfz9_3
  try clear hfz9_4
  obtain ⟨x4_1, x150002_1, u150002, rfl, HA, HK1, HO_150002, BK147, BK148, BK149, HB⟩ := hrel
  cases gk with
  | zero => exact absurd HA.out (by simp [parcloselaw03_Config.l0])
  | succ k1 =>
   have H := HA.out
   clear HA
   simp only [parcloselaw03_Config.l0] at H
   by_cases c10 : x4_1 < (l0_2.length : Int)
   ·rw [if_pos c10] at H
    have c10b0 : decide (x4_1 < (l0_2.length : Int)) = true := decide_eq_true c10
    clear c10
    by_cases c11 : 0 ≤ x4_1
    ·rw [if_pos c11] at H
     have c11b0 : decide (0 ≤ x4_1) = true := decide_eq_true c11
     clear c11
     by_cases c12 : x150002_1.length < 5864062014805
     ·rw [if_pos c12] at H
      have LMc12 := asd c12
      clear c12
      obtain ⟨y151, hy151⟩ : ∃ y_ : List (S42), y_ = (x150002_1 ++ [(⟨(rd_T77 l0_2 x4_1).f0, (rd_T77 l0_2 x4_1).f1, (rd_T77 l0_2 x4_1).f2⟩ : S42)]) := ⟨_, rfl⟩
      replace H : (parcloselaw03_Config.l0 k1 (wrap64 (x4_1 + 1)) a0_0 a0_1 l0_2 l0_3 l0_4 a0_0 a0_1 y151) = some (r1, r2, r3, r4, r5) := by first | (rw [hy151]; with_reducible exact H) | (have H2_ := (Option.bind_some _ _).symm.trans H; rw [hy151]; with_reducible exact H2_) | (have H2_ := (Option.bind_some _ _).symm.trans H; with_reducible exact H2_) | with_reducible exact H | (rw [hy151]; exact H) | exact H
      have Ny151 := asd hy151
      clear hy151
      have H' := asd H
      clear H
      have hnb13 := NB147_148.out
      have hnc13 := NB148_147.out
      have hnb14 := NB147_149.out
      have hnc14 := NB149_147.out
      have hcz15_0 : wr.cell? ⟨gb147, 0, none⟩ = some (.int .i64 a0_0) := (blk_cell BK147.out 0).trans rfl
      have hcz15_1 : wr.cell? ⟨gb147, 1, none⟩ = some (.int .i64 a0_1) := (blk_cell BK147.out 1).trans rfl
      have hcz15_2 : wr.cell? ⟨gb147, 2, none⟩ = some (.slice A0_2 l0_2.length c0_2) := (blk_cell BK147.out 2).trans rfl
      have hcz15_3 : wr.cell? ⟨gb147, 3, none⟩ = some (.slice A0_3 l0_3.length c0_3) := (blk_cell BK147.out 3).trans rfl
      have hcz15_4 : wr.cell? ⟨gb147, 4, none⟩ = some (.slice A0_4 l0_4.length c0_4) := (blk_cell BK147.out 4).trans rfl
      have hfz15_0 := blk_frozen BK147.out 0
      have hfz15_1 := blk_frozen BK147.out 1
      have hfz15_2 := blk_frozen BK147.out 2
      have hfz15_3 := blk_frozen BK147.out 3
      have hfz15_4 := blk_frozen BK147.out 4
      try go_wp2
      have n0_ := asd (Kd.R_drew HO_150002.out)
      have n1_ := asd (blk_drew BK147.out)
      have n2_ := asd (blk_drew BK148.out)
      have n3_ := asd (blk_drew BK149.out)
      have n4_ := asd (below_drew1 HB.out)
      clear HO_150002
      clear BK147
      clear BK148
      clear BK149
      clear HB
      have HO_150002 := n0_
      have BK147 := n1_
      have BK148 := n2_
      have BK149 := n3_
      have HB := n4_
      clear n0_ n1_ n2_ n3_ n4_
      have p150 : 0 ≤ (x4_1 : Int) := of_decide_eq_true (by assumption)
      have q150 : x4_1 < (l0_2.length : Int) := of_decide_eq_true (by assumption)
      obtain ⟨ad150, e150, hx150_0, hx150_1, hx150_2⟩ := at_T77 HR0_2.out x4_1 p150 q150
      have hw150_2 := hx150_2
      have hw150_1 := hx150_1
      have hw150_0 := hx150_0
      cases e150
      replace hx150_0 := (HB.out.cell (World.block_lt_of_cell? w _ hx150_0)).trans hx150_0
      replace hx150_1 := (HB.out.cell (World.block_lt_of_cell? w _ hx150_1)).trans hx150_1
      replace hx150_2 := (HB.out.cell (World.block_lt_of_cell? w _ hx150_2)).trans hx150_2
      replace p150 := eq_true p150
      replace q150 := eq_true q150
      refine start_ (n := 11) (S := fun w' => w'.cell? ⟨gb149, 0, none⟩ = some (.int .i64 a0_0) ∧ w'.cell? ⟨gb149, 1, none⟩ = some (.int .i64 a0_1) ∧ w'.cell? ⟨gb149, 2, none⟩ = some (u150002) ∧ w'.cell? ⟨gb149, 3, none⟩ = some (.slice none 0 0) ∧ w'.cell? ⟨gb149, 4, none⟩ = some (.slice none 0 0) ∧ w'.cell? ⟨gb147, 0, none⟩ = some (.int .i64 a0_0) ∧ w'.cell? ⟨gb147, 1, none⟩ = some (.int .i64 a0_1) ∧ w'.cell? ⟨gb147, 2, none⟩ = some (.slice (some ad150) l0_2.length c0_2) ∧ w'.cell? ⟨gb147, 3, none⟩ = some (.slice A0_3 l0_3.length c0_3) ∧ w'.cell? ⟨gb147, 4, none⟩ = some (.slice A0_4 l0_4.length c0_4) ∧ w'.cell? (ad150.add ((x4_1).toNat * 3)) = some (.int .i64 ((rd_T77 l0_2 x4_1).f0)) ∧ w'.cell? ⟨(ad150.add ((x4_1).toNat * 3)).block, (ad150.add ((x4_1).toNat * 3)).off + 1, none⟩ = some (.int .i64 ((rd_T77 l0_2 x4_1).f1)) ∧ w'.cell? ⟨(ad150.add ((x4_1).toNat * 3)).block, (ad150.add ((x4_1).toNat * 3)).off + 2, none⟩ = some (.int .i64 ((rd_T77 l0_2 x4_1).f2))) (ds := [10]) #[false, false, false, false, false, false, false, false, false, false, false] (by kernel_rfl) rfl rfl ⟨(blk_cell BK149.out 0).trans rfl, (blk_cell BK149.out 1).trans rfl, (blk_cell BK149.out 2).trans rfl, (blk_cell BK149.out 3).trans rfl, (blk_cell BK149.out 4).trans rfl, (blk_cell BK147.out 0).trans rfl, (blk_cell BK147.out 1).trans rfl, (blk_cell BK147.out 2).trans rfl, (blk_cell BK147.out 3).trans rfl, (blk_cell BK147.out 4).trans rfl, ((HB.out.cell (World.block_lt_of_cell? w _ hw150_0)).trans hw150_0), ((HB.out.cell (World.block_lt_of_cell? w _ hw150_1)).trans hw150_1), ((HB.out.cell (World.block_lt_of_cell? w _ hw150_2)).trans hw150_2)⟩ (fun hHeld => ?_); refine with_tabW parcloselaw03_Config.tab5 parcloselaw03_Config.bits5 (fun HT_ HW_ => ?_)
      generalize wr.drew = w16 at HO_150002 BK147 BK148 BK149 HB hx150_0 hx150_1 hx150_2 hHeld ⊢
      refine pure_ (i := 0) (N := some 19) (v := ?_) (a' := ?_) #[true, false, false, false, false, false, false, false, false, false, false] rfl rfl (any_of HT_.out (by kernel_rfl)) (fun _ _ _ h => h) (Or.inl ⟨by rfl, ?_⟩) ?_ ?_
      rotate_left
      ·intro w'
       go_simp
       with_reducible rfl
      rotate_left
      ·simp only [Act.put, sB, i64_w, i32_w]
       rfl
      refine pure_ (i := 2) (N := some 21) (v := ?_) (a' := ?_) #[true, false, true, false, false, false, false, false, false, false, false] rfl rfl (any_of HT_.out (by kernel_rfl)) (fun _ _ _ h => h) (Or.inl ⟨by rfl, ?_⟩) ?_ ?_
      rotate_left
      ·intro w'
       go_simp
       with_reducible rfl
      rotate_left
      ·simp only [Act.put, sB, i64_w, i32_w]
       rfl
      refine pure_ (i := 4) (N := some 23) (v := ?_) (a' := ?_) #[true, false, true, false, true, false, false, false, false, false, false] rfl rfl (any_of HT_.out (by kernel_rfl)) (fun _ _ _ h => h) (Or.inl ⟨by rfl, ?_⟩) ?_ ?_
      rotate_left
      ·intro w'
       go_simp
       with_reducible rfl
      rotate_left
      ·simp only [Act.put, sB, i64_w, i32_w]
       rfl
      refine take_ (i := 1) (N := some 20) (v := ?_) (a' := ?_) #[true, true, true, false, true, false, false, false, false, false, false] rfl rfl (take_ofW HT_.out HW_.out (by kernel_rfl)) (fun _ _ _ h => h) (Or.inl ⟨by rfl, ?_⟩) hHeld ?_ ?_
      rotate_left
      ·rintro w' ⟨s0, s1, s2, s3, s4, s5, s6, s7, s8, s9, s10, s11, s12⟩
       go_simp
       with_reducible rfl
      rotate_left
      ·simp only [Act.put, sB, i64_w, i32_w]
       rfl
      refine take_ (i := 3) (N := some 22) (v := ?_) (a' := ?_) #[true, true, true, true, true, false, false, false, false, false, false] rfl rfl (take_ofW HT_.out HW_.out (by kernel_rfl)) (fun _ _ _ h => h) (Or.inl ⟨by rfl, ?_⟩) hHeld ?_ ?_
      rotate_left
      ·rintro w' ⟨s0, s1, s2, s3, s4, s5, s6, s7, s8, s9, s10, s11, s12⟩
       go_simp
       with_reducible rfl
      rotate_left
      ·simp only [Act.put, sB, i64_w, i32_w]
       rfl
      refine pure_ (i := 5) (N := some 24) (v := ?_) (a' := ?_) #[true, true, true, true, true, true, false, false, false, false, false] rfl rfl (any_of HT_.out (by kernel_rfl)) (fun _ _ _ h => h) (Or.inl ⟨by rfl, ?_⟩) ?_ ?_
      rotate_left
      ·intro w'
       go_simp
       with_reducible rfl
      rotate_left
      ·simp only [Act.put, sB, i64_w, i32_w]
       rfl
      refine take_ (i := 6) (N := some 25) (v := ?_) (a' := ?_) #[true, true, true, true, true, true, true, false, false, false, false] rfl rfl (take_ofW HT_.out HW_.out (by kernel_rfl)) (fun _ _ _ h => h) (Or.inl ⟨by rfl, ?_⟩) hHeld ?_ ?_
      rotate_left
      ·rintro w' ⟨s0, s1, s2, s3, s4, s5, s6, s7, s8, s9, s10, s11, s12⟩
       go_simp
       with_reducible rfl
      rotate_left
      ·simp only [Act.put, sB, i64_w, i32_w]
       rfl
      refine one_ (i := 7) (N := some 26) #[true, true, true, true, true, true, true, true, false, false, false] rfl rfl (one_of HT_.out (by kernel_rfl)) (by decide) (fun K hK => ?_)
      refine value_ (w1 := ?_) (v := ?_) (by rfl) rfl ?_ ?_
      rotate_left 2
      ·go_simp
       constructor
       ·rfl
       ·rfl
      refine hK.out _ _ ⟨(blk_cell (blk_alloc BK149.out _) 0).trans rfl, (blk_cell (blk_alloc BK149.out _) 1).trans rfl, (blk_cell (blk_alloc BK149.out _) 2).trans rfl, (blk_cell (blk_alloc BK149.out _) 3).trans rfl, (blk_cell (blk_alloc BK149.out _) 4).trans rfl, (blk_cell (blk_alloc BK147.out _) 0).trans rfl, (blk_cell (blk_alloc BK147.out _) 1).trans rfl, (blk_cell (blk_alloc BK147.out _) 2).trans rfl, (blk_cell (blk_alloc BK147.out _) 3).trans rfl, (blk_cell (blk_alloc BK147.out _) 4).trans rfl, (World.cell?_alloc_lt _ _ _ (World.block_lt_of_cell? _ _ (((HB.out.cell (World.block_lt_of_cell? w _ hw150_0)).trans hw150_0)))).trans (((HB.out.cell (World.block_lt_of_cell? w _ hw150_0)).trans hw150_0)), (World.cell?_alloc_lt _ _ _ (World.block_lt_of_cell? _ _ (((HB.out.cell (World.block_lt_of_cell? w _ hw150_1)).trans hw150_1)))).trans (((HB.out.cell (World.block_lt_of_cell? w _ hw150_1)).trans hw150_1)), (World.cell?_alloc_lt _ _ _ (World.block_lt_of_cell? _ _ (((HB.out.cell (World.block_lt_of_cell? w _ hw150_2)).trans hw150_2)))).trans (((HB.out.cell (World.block_lt_of_cell? w _ hw150_2)).trans hw150_2))⟩ (fun hHeld => ?_)
      clear hK K
      refine norm_ (a' := ?_) ?_ ?_
      rotate_left
      ·show Act.put _ (some 26) _ = _
       simp only [Act.put, sB, i64_w, i32_w]
       rfl
      refine one_ (i := 8) (N := some 27) #[true, true, true, true, true, true, true, true, true, false, false] rfl rfl (one_of HT_.out (by kernel_rfl)) (by decide) (fun K hK => ?_)
      refine Kd.R_append_step k42 (w0 := w) w.heap.size (by rfl) (.tmp 20) (.tmp 26) 30 42 (.agg #[(.int .i64 0), (.int .i64 0), (.int .i64 0)]) 24 rfl Try.underlying30 info42 rfl (by decide) (by omega) u150002 x150002_1 (⟨(rd_T77 l0_2 x4_1).f0, (rd_T77 l0_2 x4_1).f1, (rd_T77 l0_2 x4_1).f2⟩ : S42) [.int .i64 ((rd_T77 l0_2 x4_1).f0), .int .i64 ((rd_T77 l0_2 x4_1).f1), .int .i64 ((rd_T77 l0_2 x4_1).f2)] (fun _ => True) (fun _ => False) rfl rfl ?aP (fun _ hk => hk.elim) ?aF ?aO ?aB ?aS ?aL ?_
      (case aP => exact k42_mkM _ _ _ (⟨(rd_T77 l0_2 x4_1).f0, (rd_T77 l0_2 x4_1).f1, (rd_T77 l0_2 x4_1).f2⟩ : S42))
      (case aB => exact (by repeat (first | (with_reducible first | exact HB.out | apply wa | apply wn | apply wd | refine ws ?_ GE147.out | refine ws ?_ GE148.out | refine ws ?_ GE149.out) | exact HB.out)))
      (case aF => exact (fun _ _ => trivial))
      (case aO => exact (by (with_reducible repeat (first | apply Kd.R_alloc | apply Kd.R_drewN | apply Kd.R_drew)); exact HO_150002.out))
      (case aS => exact (below_size (by repeat (first | (with_reducible first | exact HB.out | apply wa | apply wn | apply wd | refine ws ?_ GE147.out | refine ws ?_ GE148.out | refine ws ?_ GE149.out) | exact HB.out))))
      (case aL => have := LMc12.out; omega)
      intro v152 w17 ho hb hg hat
      rw [← Ny151.out] at ho
      have n0_ := asd (blk_grown (g := gb147) (o := .cells #[.int .i64 a0_0, .int .i64 a0_1, .slice (some ad150) l0_2.length c0_2, .slice A0_3 l0_3.length c0_3, .slice A0_4 l0_4.length c0_4] 26 (0, 0)) (by (with_reducible repeat first | apply bn | apply bd | apply ba); exact BK147.out) hg (Kd.R_ne HO_150002.out BK147.out (by decide)))
      have n1_ := asd (blk_grown (g := gb148) (o := .cells #[.int .i64 0, .int .i64 0, .slice none 0 0, .slice none 0 0, .slice none 0 0] 34 (0, 0)) (by (with_reducible repeat first | apply bn | apply bd | apply ba); exact BK148.out) hg (Kd.R_ne HO_150002.out BK148.out (by decide)))
      have n2_ := asd (blk_grown (g := gb149) (o := .cells #[.int .i64 a0_0, .int .i64 a0_1, u150002, .slice none 0 0, .slice none 0 0] 34 (0, 0)) (by (with_reducible repeat first | apply bn | apply bd | apply ba); exact BK149.out) hg (Kd.R_ne HO_150002.out BK149.out (by decide)))
      have n3_ := asd (hb)
      have n4_ := asd (ho)
      clear BK147
      clear BK148
      clear BK149
      clear HB
      clear HO_150002
      have BK147 := n0_
      have BK148 := n1_
      have BK149 := n2_
      have HB := n3_
      have HO153 := n4_
      clear n0_ n1_ n2_ n3_ n4_
      clear ho hb hg hat
      obtain ⟨Ao18, co18, eo18⟩ := Kd.R_slice HO153.out
      (first | subst eo18 | (injection eo18 with f1_ f2_ f3_; have f4_ := f1_.symm; have f5_ := f3_.symm; clear f1_ f2_ f3_; subst f4_; subst f5_))
      refine hK.out _ _ ⟨(blk_cell BK149.out 0).trans rfl, (blk_cell BK149.out 1).trans rfl, (blk_cell BK149.out 2).trans rfl, (blk_cell BK149.out 3).trans rfl, (blk_cell BK149.out 4).trans rfl, (blk_cell BK147.out 0).trans rfl, (blk_cell BK147.out 1).trans rfl, (blk_cell BK147.out 2).trans rfl, (blk_cell BK147.out 3).trans rfl, (blk_cell BK147.out 4).trans rfl, ((HB.out.cell (World.block_lt_of_cell? w _ hw150_0)).trans hw150_0), ((HB.out.cell (World.block_lt_of_cell? w _ hw150_1)).trans hw150_1), ((HB.out.cell (World.block_lt_of_cell? w _ hw150_2)).trans hw150_2)⟩ (fun hHeld => ?_)
      clear hK K
      refine norm_ (a' := ?_) ?_ ?_
      rotate_left
      ·show Act.put _ (some 27) _ = _
       simp only [Act.put, sB, i64_w, i32_w]
       rfl
      refine pure_ (i := 9) (N := some 28) (v := ?_) (a' := ?_) #[true, true, true, true, true, true, true, true, true, true, false] rfl rfl (any_of HT_.out (by kernel_rfl)) (fun _ _ _ h => h) (Or.inl ⟨by rfl, ?_⟩) ?_ ?_
      rotate_left
      ·intro w'
       go_simp
       with_reducible rfl
      rotate_left
      ·simp only [Act.put, sB, i64_w, i32_w]
       rfl
      refine last_ (i := 10) (N := none) #[true, true, true, true, true, true, true, true, true, true, true] rfl rfl (one_of HT_.out (by kernel_rfl)) (by decide) (fun K hK => ?_)
      have hs19 : w17.cell? ⟨gb149, 2, none⟩ = some (u150002) := (blk_cell BK149.out 2).trans rfl
      have hfs19 := blk_frozen BK149.out 2
      have hns19_0 := NB147_149.out
      have hns19_1 := NB148_149.out
      have hms19_0 := NB149_147.out
      have hms19_1 := NB149_148.out
      refine skip_ (w1 := ?_) (by rfl) rfl ?_ ?_
      rotate_left
      ·go_simp
       rfl
      refine hK.out _ _ ?_
      clear hK K
      refine done_ (done_of HT_.out (by kernel_rfl)) ?_
      try go_wp2
      go_roundg k1
      case measure => have := HK1.out; omega
      case rel => exact ⟨(wrap64 (x4_1 + 1)), (y151), (.slice Ao18 y151.length co18), (by first | rfl | (simp; done) | (simp [*]; done)), H', ⟨by have := HK1.out; omega⟩, ⟨by (with_reducible repeat (first | apply Kd.R_alloc | apply Kd.R_drewN | apply Kd.R_drew)); exact Kd.R_mono (Kd.R_far (p := ⟨gb149, 2, none⟩) (Kd.R_types HO153.out BK149.out (by decide)) (fun _ hk => hk.2) (.slice Ao18 y151.length co18)) (fun _ hk => trivial)⟩, ⟨by (with_reducible repeat first | apply bn | apply bd | apply ba); refine blk_far ?_ NB147_149.out _; (with_reducible repeat first | apply bn | apply bd | apply ba); exact BK147.out⟩, ⟨by (with_reducible repeat first | apply bn | apply bd | apply ba); refine blk_far ?_ NB148_149.out _; (with_reducible repeat first | apply bn | apply bd | apply ba); exact BK148.out⟩, ⟨by (with_reducible repeat first | apply bn | apply bd | apply ba); refine blk_put (cs := #[.int .i64 a0_0, .int .i64 a0_1, u150002, .slice none 0 0, .slice none 0 0]) ?_ 2 _ rfl; (with_reducible repeat first | apply bn | apply bd | apply ba); exact BK149.out⟩, ⟨by repeat (first | (with_reducible first | exact HB.out | apply wa | apply wn | apply wd | refine ws ?_ GE147.out | refine ws ?_ GE148.out | refine ws ?_ GE149.out) | exact HB.out)⟩⟩
     ·rw [if_neg c12] at H
      exact absurd H (by simp)
    ·rw [if_neg c11] at H
     exact absurd H (by simp)
   ·rw [if_neg c10] at H
    have c10b0 : decide (x4_1 < (l0_2.length : Int)) = false := decide_eq_false c10
    clear c10
    have H' := asd H
    clear H
    have hnb20 := NB147_148.out
    have hnc20 := NB148_147.out
    have hnb21 := NB147_149.out
    have hnc21 := NB149_147.out
    have hcz22_0 : wr.cell? ⟨gb147, 0, none⟩ = some (.int .i64 a0_0) := (blk_cell BK147.out 0).trans rfl
    have hcz22_1 : wr.cell? ⟨gb147, 1, none⟩ = some (.int .i64 a0_1) := (blk_cell BK147.out 1).trans rfl
    have hcz22_2 : wr.cell? ⟨gb147, 2, none⟩ = some (.slice A0_2 l0_2.length c0_2) := (blk_cell BK147.out 2).trans rfl
    have hcz22_3 : wr.cell? ⟨gb147, 3, none⟩ = some (.slice A0_3 l0_3.length c0_3) := (blk_cell BK147.out 3).trans rfl
    have hcz22_4 : wr.cell? ⟨gb147, 4, none⟩ = some (.slice A0_4 l0_4.length c0_4) := (blk_cell BK147.out 4).trans rfl
    have hfz22_0 := blk_frozen BK147.out 0
    have hfz22_1 := blk_frozen BK147.out 1
    have hfz22_2 := blk_frozen BK147.out 2
    have hfz22_3 := blk_frozen BK147.out 3
    have hfz22_4 := blk_frozen BK147.out 4
    go_wp2
    go_loopg [5] k1 (fun kq v5 w' => ∃ (x5_2 : Int) (x150003_2 : List (S49)) (u150003 : Value), v5 = .int .i64 x5_2 ∧ Aside0 (parcloselaw03_Config.l1 kq x5_2 a0_0 a0_1 l0_2 l0_3 l0_4 a0_0 a0_1 x150002_1 x150003_2 = some (r1, r2, r3, r4, r5)) ∧ Aside0 (kq ≤ k1) ∧ Aside0 (Kd.R k42 42 w' w.heap.size (fun _ => True) u150002 x150002_1) ∧ Aside0 (Kd.S k49 49 w' w.heap.size (fun _ => True) u150003 x150003_2) ∧ Aside0 (w'.heap[gb147]? = some (.cells #[.int .i64 a0_0, .int .i64 a0_1, (.slice A0_2 l0_2.length c0_2), (.slice A0_3 l0_3.length c0_3), (.slice A0_4 l0_4.length c0_4)] 26 (0, 0))) ∧ Aside0 (w'.heap[gb148]? = some (.cells #[.int .i64 0, .int .i64 0, (.slice none 0 0), (.slice none 0 0), (.slice none 0 0)] 34 (0, 0))) ∧ Aside0 (w'.heap[gb149]? = some (.cells #[.int .i64 a0_0, .int .i64 a0_1, u150002, u150003, (.slice none 0 0)] 34 (0, 0))) ∧ Aside0 (Below w.heap.size w w'))
    case atStart => exact ⟨(0), (([] : List (S49))), (.slice none 0 0), (by first | rfl | (simp; done) | (simp [*]; done)), H', ⟨Nat.le_refl _⟩, ⟨by (with_reducible repeat (first | apply Kd.R_alloc | apply Kd.R_drewN | apply Kd.R_drew)); exact HO_150002.out⟩, ⟨by first | exact Kd.S_nil _ _ _ _ _ | exact Kd.N_nil _ _ _ _ _ | exact Kd.V_nil _ _ _ _ _ | exact Kd.Q_nil _ _ _ _ _ | exact Kd.R_nil _ _ _ _ _⟩, ⟨by (with_reducible repeat first | apply bn | apply bd | apply ba); exact BK147.out⟩, ⟨by (with_reducible repeat first | apply bn | apply bd | apply ba); exact BK148.out⟩, ⟨by (with_reducible repeat first | apply bn | apply bd | apply ba); exact BK149.out⟩, ⟨by repeat (first | (with_reducible first | exact HB.out | apply wa | apply wn | apply wd | refine ws ?_ GE147.out | refine ws ?_ GE148.out | refine ws ?_ GE149.out) | exact HB.out)⟩⟩
    case round =>
     clear H'
     try clear c1
     try clear p1
     try clear q1
     try clear hx1
     try clear c2
     try clear p2
     try clear c4
     try clear p6
     try clear c7
     try clear c8
     try clear c10
     try clear c10b0
     try clear c11
     try clear c11b0
     try clear c12
     try clear c13
     try clear c14
     try clear p15
     try clear q15
     try clear hx15
     try clear c17
     try clear c20
     try clear c21
     try clear hcz15_0
     try clear hcz15_1
     try clear hcz15_2
     try clear hcz15_3
     try clear hcz15_4
     try clear hcz22_0
     try clear hcz22_1
     try clear hcz22_2
     try clear hcz22_3
     try clear hcz22_4
     try clear hcz5_0
     try clear hcz5_1
     try clear hcz5_2
     try clear hcz5_3
     try clear hcz5_4
     try clear hcz9_0
     try clear hcz9_1
     try clear hcz9_2
     try clear hcz9_3
     try clear hcz9_4
     try clear hfz15_0
     try clear hfz15_1
     try clear hfz15_2
     try clear hfz15_3
     try clear hfz15_4
     try clear hfz22_0
     try clear hfz22_1
     try clear hfz22_2
     try clear hfz22_3
     try clear hfz22_4
     try clear hfz5_0
     try clear hfz5_1
     try clear hfz5_2
     try clear hfz5_3
     try clear hfz5_4
     try clear hfz9_0
     try clear hfz9_1
     try clear hfz9_2
     try clear hfz9_3
     try clear hfz9_4
     try clear hx150_0
     try clear hx150_1
     try clear hx150_2
     try clear p150
     try clear p2
     try clear q150
     obtain ⟨x5_2, x150003_2, u150003, rfl, HA, HK2, HO_150002, HO_150003, BK147, BK148, BK149, HB⟩ := hrel
     cases gk with
     | zero => exact absurd HA.out (by simp [parcloselaw03_Config.l1])
     | succ k2 =>
      have H := HA.out
      clear HA
      simp only [parcloselaw03_Config.l1] at H
      by_cases c23 : x5_2 < (l0_3.length : Int)
      ·rw [if_pos c23] at H
       have c23b0 : decide (x5_2 < (l0_3.length : Int)) = true := decide_eq_true c23
       clear c23
       by_cases c24 : 0 ≤ x5_2
       ·rw [if_pos c24] at H
        have c24b0 : decide (0 ≤ x5_2) = true := decide_eq_true c24
        clear c24
        replace H := Option.bind_eq_some_iff.mp H
        obtain ⟨⟨t155, t158, t161, t164, t165, t166⟩, A250, H⟩ := H
        replace H : (if x150003_2.length < 1759218604441 then (parcloselaw03_Config.l1 k2 (wrap64 (x5_2 + 1)) a0_0 a0_1 l0_2 l0_3 l0_4 a0_0 a0_1 x150002_1 (x150003_2 ++ [(⟨t155, t158, t161, (⟨t164, t165, t166⟩ : S47)⟩ : S49)])) else (none)) = some (r1, r2, r3, r4, r5) := H
        have A25 := asd A250
        clear A250
        by_cases c26 : x150003_2.length < 1759218604441
        ·rw [if_pos c26] at H
         have LMc26 := asd c26
         clear c26
         obtain ⟨y167, hy167⟩ : ∃ y_ : List (S49), y_ = (x150003_2 ++ [(⟨t155, t158, t161, (⟨t164, t165, t166⟩ : S47)⟩ : S49)]) := ⟨_, rfl⟩
         replace H : (parcloselaw03_Config.l1 k2 (wrap64 (x5_2 + 1)) a0_0 a0_1 l0_2 l0_3 l0_4 a0_0 a0_1 x150002_1 y167) = some (r1, r2, r3, r4, r5) := by first | (rw [hy167]; with_reducible exact H) | (have H2_ := (Option.bind_some _ _).symm.trans H; rw [hy167]; with_reducible exact H2_) | (have H2_ := (Option.bind_some _ _).symm.trans H; with_reducible exact H2_) | with_reducible exact H | (rw [hy167]; exact H) | exact H
         have Ny167 := asd hy167
         clear hy167
         have H' := asd H
         clear H
         have hnb27 := NB147_148.out
         have hnc27 := NB148_147.out
         have hnb28 := NB147_149.out
         have hnc28 := NB149_147.out
         have hcz29_0 : wr.cell? ⟨gb147, 0, none⟩ = some (.int .i64 a0_0) := (blk_cell BK147.out 0).trans rfl
         have hcz29_1 : wr.cell? ⟨gb147, 1, none⟩ = some (.int .i64 a0_1) := (blk_cell BK147.out 1).trans rfl
         have hcz29_2 : wr.cell? ⟨gb147, 2, none⟩ = some (.slice A0_2 l0_2.length c0_2) := (blk_cell BK147.out 2).trans rfl
         have hcz29_3 : wr.cell? ⟨gb147, 3, none⟩ = some (.slice A0_3 l0_3.length c0_3) := (blk_cell BK147.out 3).trans rfl
         have hcz29_4 : wr.cell? ⟨gb147, 4, none⟩ = some (.slice A0_4 l0_4.length c0_4) := (blk_cell BK147.out 4).trans rfl
         have hfz29_0 := blk_frozen BK147.out 0
         have hfz29_1 := blk_frozen BK147.out 1
         have hfz29_2 := blk_frozen BK147.out 2
         have hfz29_3 := blk_frozen BK147.out 3
         have hfz29_4 := blk_frozen BK147.out 4
         try go_wp2
         have n0_ := asd (Kd.R_drew HO_150002.out)
         have n1_ := asd (Kd.S_drew HO_150003.out)
         have n2_ := asd (blk_drew BK147.out)
         have n3_ := asd (blk_drew BK148.out)
         have n4_ := asd (blk_drew BK149.out)
         have n5_ := asd (below_drew1 HB.out)
         clear HO_150002
         clear HO_150003
         clear BK147
         clear BK148
         clear BK149
         clear HB
         have HO_150002 := n0_
         have HO_150003 := n1_
         have BK147 := n2_
         have BK148 := n3_
         have BK149 := n4_
         have HB := n5_
         clear n0_ n1_ n2_ n3_ n4_ n5_
         have p154 : 0 ≤ (x5_2 : Int) := of_decide_eq_true (by assumption)
         have q154 : x5_2 < (l0_3.length : Int) := of_decide_eq_true (by assumption)
         obtain ⟨ad154, A154_0, c154_0, A154_1, c154_1, A154_2, c154_2, e154, hx154_0, hx154_1, hx154_2, hx154_3, hx154_4, hx154_5, hl154_0, hi154_0, hl154_1, hi154_1, hl154_2, hi154_2⟩ := at_T61 HR0_3.out x5_2 p154 q154
         have hw154_5 := hx154_5
         have hw154_4 := hx154_4
         have hw154_3 := hx154_3
         have hw154_2 := hx154_2
         have hw154_1 := hx154_1
         have hw154_0 := hx154_0
         cases e154
         replace hx154_0 := (HB.out.cell (World.block_lt_of_cell? w _ hx154_0)).trans hx154_0
         replace hx154_1 := (HB.out.cell (World.block_lt_of_cell? w _ hx154_1)).trans hx154_1
         replace hx154_2 := (HB.out.cell (World.block_lt_of_cell? w _ hx154_2)).trans hx154_2
         replace hx154_3 := (HB.out.cell (World.block_lt_of_cell? w _ hx154_3)).trans hx154_3
         replace hx154_4 := (HB.out.cell (World.block_lt_of_cell? w _ hx154_4)).trans hx154_4
         replace hx154_5 := (HB.out.cell (World.block_lt_of_cell? w _ hx154_5)).trans hx154_5
         have HR154_0 := asd hi154_0
         have HC154_0 := asd hl154_0
         clear hi154_0 hl154_0
         have HR154_1 := asd hi154_1
         have HC154_1 := asd hl154_1
         clear hi154_1 hl154_1
         have HR154_2 := asd hi154_2
         have HC154_2 := asd hl154_2
         clear hi154_2 hl154_2
         replace p154 := eq_true p154
         replace q154 := eq_true q154
         refine start_ (n := 12) (S := fun w' => w'.cell? ⟨gb149, 0, none⟩ = some (.int .i64 a0_0) ∧ w'.cell? ⟨gb149, 1, none⟩ = some (.int .i64 a0_1) ∧ w'.cell? ⟨gb149, 2, none⟩ = some (u150002) ∧ w'.cell? ⟨gb149, 3, none⟩ = some (u150003) ∧ w'.cell? ⟨gb149, 4, none⟩ = some (.slice none 0 0) ∧ w'.cell? ⟨gb147, 0, none⟩ = some (.int .i64 a0_0) ∧ w'.cell? ⟨gb147, 1, none⟩ = some (.int .i64 a0_1) ∧ w'.cell? ⟨gb147, 2, none⟩ = some (.slice A0_2 l0_2.length c0_2) ∧ w'.cell? ⟨gb147, 3, none⟩ = some (.slice (some ad154) l0_3.length c0_3) ∧ w'.cell? ⟨gb147, 4, none⟩ = some (.slice A0_4 l0_4.length c0_4) ∧ w'.cell? (ad154.add ((x5_2).toNat * 6)) = some (.slice A154_0 ((rd_T61 l0_3 x5_2).f0).length c154_0) ∧ w'.cell? ⟨(ad154.add ((x5_2).toNat * 6)).block, (ad154.add ((x5_2).toNat * 6)).off + 1, none⟩ = some (.slice A154_1 ((rd_T61 l0_3 x5_2).f1).length c154_1) ∧ w'.cell? ⟨(ad154.add ((x5_2).toNat * 6)).block, (ad154.add ((x5_2).toNat * 6)).off + 2, none⟩ = some (.slice A154_2 ((rd_T61 l0_3 x5_2).f2).length c154_2) ∧ w'.cell? ⟨(ad154.add ((x5_2).toNat * 6)).block, (ad154.add ((x5_2).toNat * 6)).off + 3, none⟩ = some (.int .u8 ((rd_T61 l0_3 x5_2).f3.f0)) ∧ w'.cell? ⟨(ad154.add ((x5_2).toNat * 6)).block, (ad154.add ((x5_2).toNat * 6)).off + 4, none⟩ = some (.int .u8 ((rd_T61 l0_3 x5_2).f3.f1)) ∧ w'.cell? ⟨(ad154.add ((x5_2).toNat * 6)).block, (ad154.add ((x5_2).toNat * 6)).off + 5, none⟩ = some (.int .u8 ((rd_T61 l0_3 x5_2).f3.f2))) (ds := [11]) #[false, false, false, false, false, false, false, false, false, false, false, false] (by kernel_rfl) rfl rfl ⟨(blk_cell BK149.out 0).trans rfl, (blk_cell BK149.out 1).trans rfl, (blk_cell BK149.out 2).trans rfl, (blk_cell BK149.out 3).trans rfl, (blk_cell BK149.out 4).trans rfl, (blk_cell BK147.out 0).trans rfl, (blk_cell BK147.out 1).trans rfl, (blk_cell BK147.out 2).trans rfl, (blk_cell BK147.out 3).trans rfl, (blk_cell BK147.out 4).trans rfl, ((HB.out.cell (World.block_lt_of_cell? w _ hw154_0)).trans hw154_0), ((HB.out.cell (World.block_lt_of_cell? w _ hw154_1)).trans hw154_1), ((HB.out.cell (World.block_lt_of_cell? w _ hw154_2)).trans hw154_2), ((HB.out.cell (World.block_lt_of_cell? w _ hw154_3)).trans hw154_3), ((HB.out.cell (World.block_lt_of_cell? w _ hw154_4)).trans hw154_4), ((HB.out.cell (World.block_lt_of_cell? w _ hw154_5)).trans hw154_5)⟩ (fun hHeld => ?_); refine with_tabW parcloselaw03_Config.tab9 parcloselaw03_Config.bits9 (fun HT_ HW_ => ?_)
         generalize wr.drew = w30 at HO_150002 HO_150003 BK147 BK148 BK149 HB HR154_0 HR154_1 HR154_2 hx154_0 hx154_1 hx154_2 hx154_3 hx154_4 hx154_5 hHeld ⊢
         refine pure_ (i := 0) (N := some 36) (v := ?_) (a' := ?_) #[true, false, false, false, false, false, false, false, false, false, false, false] rfl rfl (any_of HT_.out (by kernel_rfl)) (fun _ _ _ h => h) (Or.inl ⟨by rfl, ?_⟩) ?_ ?_
         rotate_left
         ·intro w'
          go_simp
          with_reducible rfl
         rotate_left
         ·simp only [Act.put, sB, i64_w, i32_w]
          rfl
         refine pure_ (i := 2) (N := some 38) (v := ?_) (a' := ?_) #[true, false, true, false, false, false, false, false, false, false, false, false] rfl rfl (any_of HT_.out (by kernel_rfl)) (fun _ _ _ h => h) (Or.inl ⟨by rfl, ?_⟩) ?_ ?_
         rotate_left
         ·intro w'
          go_simp
          with_reducible rfl
         rotate_left
         ·simp only [Act.put, sB, i64_w, i32_w]
          rfl
         refine pure_ (i := 4) (N := some 40) (v := ?_) (a' := ?_) #[true, false, true, false, true, false, false, false, false, false, false, false] rfl rfl (any_of HT_.out (by kernel_rfl)) (fun _ _ _ h => h) (Or.inl ⟨by rfl, ?_⟩) ?_ ?_
         rotate_left
         ·intro w'
          go_simp
          with_reducible rfl
         rotate_left
         ·simp only [Act.put, sB, i64_w, i32_w]
          rfl
         refine take_ (i := 1) (N := some 37) (v := ?_) (a' := ?_) #[true, true, true, false, true, false, false, false, false, false, false, false] rfl rfl (take_ofW HT_.out HW_.out (by kernel_rfl)) (fun _ _ _ h => h) (Or.inl ⟨by rfl, ?_⟩) hHeld ?_ ?_
         rotate_left
         ·rintro w' ⟨s0, s1, s2, s3, s4, s5, s6, s7, s8, s9, s10, s11, s12, s13, s14, s15⟩
          go_simp
          with_reducible rfl
         rotate_left
         ·simp only [Act.put, sB, i64_w, i32_w]
          rfl
         refine take_ (i := 3) (N := some 39) (v := ?_) (a' := ?_) #[true, true, true, true, true, false, false, false, false, false, false, false] rfl rfl (take_ofW HT_.out HW_.out (by kernel_rfl)) (fun _ _ _ h => h) (Or.inl ⟨by rfl, ?_⟩) hHeld ?_ ?_
         rotate_left
         ·rintro w' ⟨s0, s1, s2, s3, s4, s5, s6, s7, s8, s9, s10, s11, s12, s13, s14, s15⟩
          go_simp
          with_reducible rfl
         rotate_left
         ·simp only [Act.put, sB, i64_w, i32_w]
          rfl
         refine pure_ (i := 5) (N := some 41) (v := ?_) (a' := ?_) #[true, true, true, true, true, true, false, false, false, false, false, false] rfl rfl (any_of HT_.out (by kernel_rfl)) (fun _ _ _ h => h) (Or.inl ⟨by rfl, ?_⟩) ?_ ?_
         rotate_left
         ·intro w'
          go_simp
          with_reducible rfl
         rotate_left
         ·simp only [Act.put, sB, i64_w, i32_w]
          rfl
         refine take_ (i := 6) (N := some 42) (v := ?_) (a' := ?_) #[true, true, true, true, true, true, true, false, false, false, false, false] rfl rfl (take_ofW HT_.out HW_.out (by kernel_rfl)) (fun _ _ _ h => h) (Or.inl ⟨by rfl, ?_⟩) hHeld ?_ ?_
         rotate_left
         ·rintro w' ⟨s0, s1, s2, s3, s4, s5, s6, s7, s8, s9, s10, s11, s12, s13, s14, s15⟩
          go_simp
          with_reducible rfl
         rotate_left
         ·simp only [Act.put, sB, i64_w, i32_w]
          rfl
         refine one_ (i := 7) (N := some 43) #[true, true, true, true, true, true, true, true, false, false, false, false] rfl rfl (one_of HT_.out (by kernel_rfl)) (by decide) (fun K hK => ?_)
         refine goes_ Try.func31 (by kernel_rfl) rfl #[.agg #[.slice A154_0 ((rd_T61 l0_3 x5_2).f0).length c154_0, .slice A154_1 ((rd_T61 l0_3 x5_2).f1).length c154_1, .slice A154_2 ((rd_T61 l0_3 x5_2).f2).length c154_2, .int .u8 ((rd_T61 l0_3 x5_2).f3.f0), .int .u8 ((rd_T61 l0_3 x5_2).f3.f1), .int .u8 ((rd_T61 l0_3 x5_2).f3.f2)]] (by rfl) rfl rfl (by (try simp only [List.map_toArray, List.map_cons, List.map_nil]); first | done | rfl | (simp only [List.length_drop, List.length_take]; rfl)) ?_
         with_reducible refine (parcloselaw03_Part.calls k2 _ _ ((rd_T61 l0_3 x5_2).f0) _ _ ((rd_T61 l0_3 x5_2).f1) _ _ ((rd_T61 l0_3 x5_2).f2) ((rd_T61 l0_3 x5_2).f3.f0) ((rd_T61 l0_3 x5_2).f3.f1) ((rd_T61 l0_3 x5_2).f3.f2) t155 t158 t161 t164 t165 t166 _ ?side1 ?side2 ?side3 ?side4 ?side5 ?side6 A25.out).mono ?_
         (case side1 => repeat (first | exact (Kd.C_below HR154_0.out HB.out) | (with_reducible refine Kd.C_alloc ?_ _) | (with_reducible refine Kd.C_drewN ?_ _) | (with_reducible refine Kd.C_drew ?_)))
         (case side2 => exact HC154_0.out)
         (case side3 => repeat (first | exact (Kd.C_below HR154_1.out HB.out) | (with_reducible refine Kd.C_alloc ?_ _) | (with_reducible refine Kd.C_drewN ?_ _) | (with_reducible refine Kd.C_drew ?_)))
         (case side4 => exact HC154_1.out)
         (case side5 => repeat (first | exact (Kd.C_below HR154_2.out HB.out) | (with_reducible refine Kd.C_alloc ?_ _) | (with_reducible refine Kd.C_drewN ?_ _) | (with_reducible refine Kd.C_drew ?_)))
         (case side6 => exact HC154_2.out)
         rintro e w31 ⟨v156, v159, v162, rfl, ho0, ho1, ho2, hb⟩
         refine ⟨_, rfl, ?_⟩
         have n0_ := asd (Kd.R_below (by (with_reducible repeat (first | apply Kd.R_alloc | apply Kd.R_drewN | apply Kd.R_drew)); exact HO_150002.out) hb)
         have n1_ := asd (Kd.S_mono (Kd.S_told (Kd.S_told (Kd.S_told (Kd.S_old (by (with_reducible repeat (first | apply Kd.S_alloc | apply Kd.S_drewN | apply Kd.S_drew)); exact HO_150003.out) hb) (Kd.R_base ho0)) (Kd.R_base ho1)) (Kd.R_base ho2)) (fun _ h_ => h_.1))
         have n2_ := asd (Kd.R_lower ho0 (below_size (by repeat (first | (with_reducible first | exact HB.out | apply wa | apply wn | apply wd | refine ws ?_ GE147.out | refine ws ?_ GE148.out | refine ws ?_ GE149.out) | exact HB.out))))
         have n3_ := asd (Kd.R_lower ho1 (below_size (by repeat (first | (with_reducible first | exact HB.out | apply wa | apply wn | apply wd | refine ws ?_ GE147.out | refine ws ?_ GE148.out | refine ws ?_ GE149.out) | exact HB.out))))
         have n4_ := asd (Kd.R_lower ho2 (below_size (by repeat (first | (with_reducible first | exact HB.out | apply wa | apply wn | apply wd | refine ws ?_ GE147.out | refine ws ?_ GE148.out | refine ws ?_ GE149.out) | exact HB.out))))
         have n5_ := asd (blk_below (g := gb147) (o := .cells #[.int .i64 a0_0, .int .i64 a0_1, .slice A0_2 l0_2.length c0_2, .slice (some ad154) l0_3.length c0_3, .slice A0_4 l0_4.length c0_4] 26 (0, 0)) (by (with_reducible repeat first | apply bn | apply bd | apply ba); exact BK147.out) hb)
         have n6_ := asd (blk_below (g := gb148) (o := .cells #[.int .i64 0, .int .i64 0, .slice none 0 0, .slice none 0 0, .slice none 0 0] 34 (0, 0)) (by (with_reducible repeat first | apply bn | apply bd | apply ba); exact BK148.out) hb)
         have n7_ := asd (blk_below (g := gb149) (o := .cells #[.int .i64 a0_0, .int .i64 a0_1, u150002, u150003, .slice none 0 0] 34 (0, 0)) (by (with_reducible repeat first | apply bn | apply bd | apply ba); exact BK149.out) hb)
         have n8_ := asd (below_step (by repeat (first | (with_reducible first | exact HB.out | apply wa | apply wn | apply wd | refine ws ?_ GE147.out | refine ws ?_ GE148.out | refine ws ?_ GE149.out) | exact HB.out)) hb)
         clear HO_150002
         clear HO_150003
         clear BK147
         clear BK148
         clear BK149
         clear HB
         have HO_150002 := n0_
         have HO_150003 := n1_
         have HO157 := n2_
         have HO160 := n3_
         have HO163 := n4_
         have BK147 := n5_
         have BK148 := n6_
         have BK149 := n7_
         have HB := n8_
         clear n0_ n1_ n2_ n3_ n4_ n5_ n6_ n7_ n8_
         (try clear hb)
         (try clear hb2)
         (try clear hk)
         (try clear hi)
         (try clear ho0)
         (try clear ho1)
         (try clear ho2)
         obtain ⟨Ao33, co33, eo33⟩ := Kd.R_slice HO157.out
         (first | subst eo33 | (injection eo33 with f1_ f2_ f3_; have f4_ := f1_.symm; have f5_ := f3_.symm; clear f1_ f2_ f3_; subst f4_; subst f5_))
         obtain ⟨Ao34, co34, eo34⟩ := Kd.R_slice HO160.out
         (first | subst eo34 | (injection eo34 with f1_ f2_ f3_; have f4_ := f1_.symm; have f5_ := f3_.symm; clear f1_ f2_ f3_; subst f4_; subst f5_))
         obtain ⟨Ao35, co35, eo35⟩ := Kd.R_slice HO163.out
         (first | subst eo35 | (injection eo35 with f1_ f2_ f3_; have f4_ := f1_.symm; have f5_ := f3_.symm; clear f1_ f2_ f3_; subst f4_; subst f5_))
         refine hK.out _ _ ⟨(blk_cell BK149.out 0).trans rfl, (blk_cell BK149.out 1).trans rfl, (blk_cell BK149.out 2).trans rfl, (blk_cell BK149.out 3).trans rfl, (blk_cell BK149.out 4).trans rfl, (blk_cell BK147.out 0).trans rfl, (blk_cell BK147.out 1).trans rfl, (blk_cell BK147.out 2).trans rfl, (blk_cell BK147.out 3).trans rfl, (blk_cell BK147.out 4).trans rfl, ((HB.out.cell (World.block_lt_of_cell? w _ hw154_0)).trans hw154_0), ((HB.out.cell (World.block_lt_of_cell? w _ hw154_1)).trans hw154_1), ((HB.out.cell (World.block_lt_of_cell? w _ hw154_2)).trans hw154_2), ((HB.out.cell (World.block_lt_of_cell? w _ hw154_3)).trans hw154_3), ((HB.out.cell (World.block_lt_of_cell? w _ hw154_4)).trans hw154_4), ((HB.out.cell (World.block_lt_of_cell? w _ hw154_5)).trans hw154_5)⟩ (fun hHeld => ?_)
         clear hK K
         refine norm_ (a' := ?_) ?_ ?_
         rotate_left
         ·show Act.put _ (some 43) _ = _
          simp only [Act.put, sB, i64_w, i32_w]
          rfl
         refine one_ (i := 8) (N := some 44) #[true, true, true, true, true, true, true, true, true, false, false, false] rfl rfl (one_of HT_.out (by kernel_rfl)) (by decide) (fun K hK => ?_)
         refine value_ (w1 := ?_) (v := ?_) (by rfl) rfl ?_ ?_
         rotate_left 2
         ·go_simp
          constructor
          ·rfl
          ·rfl
         refine hK.out _ _ ⟨(blk_cell (blk_alloc BK149.out _) 0).trans rfl, (blk_cell (blk_alloc BK149.out _) 1).trans rfl, (blk_cell (blk_alloc BK149.out _) 2).trans rfl, (blk_cell (blk_alloc BK149.out _) 3).trans rfl, (blk_cell (blk_alloc BK149.out _) 4).trans rfl, (blk_cell (blk_alloc BK147.out _) 0).trans rfl, (blk_cell (blk_alloc BK147.out _) 1).trans rfl, (blk_cell (blk_alloc BK147.out _) 2).trans rfl, (blk_cell (blk_alloc BK147.out _) 3).trans rfl, (blk_cell (blk_alloc BK147.out _) 4).trans rfl, (World.cell?_alloc_lt _ _ _ (World.block_lt_of_cell? _ _ (((HB.out.cell (World.block_lt_of_cell? w _ hw154_0)).trans hw154_0)))).trans (((HB.out.cell (World.block_lt_of_cell? w _ hw154_0)).trans hw154_0)), (World.cell?_alloc_lt _ _ _ (World.block_lt_of_cell? _ _ (((HB.out.cell (World.block_lt_of_cell? w _ hw154_1)).trans hw154_1)))).trans (((HB.out.cell (World.block_lt_of_cell? w _ hw154_1)).trans hw154_1)), (World.cell?_alloc_lt _ _ _ (World.block_lt_of_cell? _ _ (((HB.out.cell (World.block_lt_of_cell? w _ hw154_2)).trans hw154_2)))).trans (((HB.out.cell (World.block_lt_of_cell? w _ hw154_2)).trans hw154_2)), (World.cell?_alloc_lt _ _ _ (World.block_lt_of_cell? _ _ (((HB.out.cell (World.block_lt_of_cell? w _ hw154_3)).trans hw154_3)))).trans (((HB.out.cell (World.block_lt_of_cell? w _ hw154_3)).trans hw154_3)), (World.cell?_alloc_lt _ _ _ (World.block_lt_of_cell? _ _ (((HB.out.cell (World.block_lt_of_cell? w _ hw154_4)).trans hw154_4)))).trans (((HB.out.cell (World.block_lt_of_cell? w _ hw154_4)).trans hw154_4)), (World.cell?_alloc_lt _ _ _ (World.block_lt_of_cell? _ _ (((HB.out.cell (World.block_lt_of_cell? w _ hw154_5)).trans hw154_5)))).trans (((HB.out.cell (World.block_lt_of_cell? w _ hw154_5)).trans hw154_5))⟩ (fun hHeld => ?_)
         clear hK K
         refine norm_ (a' := ?_) ?_ ?_
         rotate_left
         ·show Act.put _ (some 44) _ = _
          simp only [Act.put, sB, i64_w, i32_w]
          rfl
         refine one_ (i := 9) (N := some 45) #[true, true, true, true, true, true, true, true, true, true, false, false] rfl rfl (one_of HT_.out (by kernel_rfl)) (by decide) (fun K hK => ?_)
         refine Kd.S_append_step k49 (w0 := w) w.heap.size (by rfl) (.tmp 37) (.tmp 44) 31 49 (.agg #[(.slice none 0 0), (.slice none 0 0), (.slice none 0 0), (.int .u8 0), (.int .u8 0), (.int .u8 0)]) 80 rfl Try.underlying31 info49 rfl (by decide) (by omega) u150003 x150003_2 (⟨t155, t158, t161, (⟨t164, t165, t166⟩ : S47)⟩ : S49) [.slice Ao33 t155.length co33, .slice Ao34 t158.length co34, .slice Ao35 t161.length co35, .int .u8 t164, .int .u8 t165, .int .u8 t166] (fun _ => True) (fun k_ => some k_ = (.slice Ao33 t155.length co33 : Value).ownBlock ∨ some k_ = (.slice Ao34 t158.length co34 : Value).ownBlock ∨ some k_ = (.slice Ao35 t161.length co35 : Value).ownBlock) rfl rfl ?aP (fun k_ hk_ => hk_.elim (fun h_ => ((Kd.R_mono (ok' := fun k_ => ((fun _ => True)) k_ ∧ some k_ ≠ (u150003 : Value).ownBlock) (Kd.R_apart' (HO157.out) (Kd.S_typed HO_150003.out) (by decide)) (fun k_ hk => ⟨trivial, hk.2⟩))).1 k_ h_.symm) (fun h_ => h_.elim (fun h_ => ((Kd.R_mono (ok' := fun k_ => ((fun _ => True)) k_ ∧ some k_ ≠ (u150003 : Value).ownBlock) (Kd.R_apart' (HO160.out) (Kd.S_typed HO_150003.out) (by decide)) (fun k_ hk => ⟨trivial, hk.2⟩))).1 k_ h_.symm) (fun h_ => ((Kd.R_mono (ok' := fun k_ => ((fun _ => True)) k_ ∧ some k_ ≠ (u150003 : Value).ownBlock) (Kd.R_apart' (HO163.out) (Kd.S_typed HO_150003.out) (by decide)) (fun k_ hk => ⟨trivial, hk.2⟩))).1 k_ h_.symm))) ?aF ?aO ?aB ?aS ?aL ?_
         (case aP => exact k49_mkM _ _ _ (⟨t155, t158, t161, (⟨t164, t165, t166⟩ : S47)⟩ : S49) (Kd.R_mono (Kd.R_tight rfl (Kd.R_mono (ok' := fun k_ => ((fun _ => True)) k_ ∧ some k_ ≠ (u150003 : Value).ownBlock) (Kd.R_apart' (HO157.out) (Kd.S_typed HO_150003.out) (by decide)) (fun k_ hk => ⟨trivial, hk.2⟩))) (fun _ h_ => Or.inl h_)) (Kd.R_mono (Kd.R_tight rfl (Kd.R_mono (ok' := fun k_ => ((fun _ => True)) k_ ∧ some k_ ≠ (u150003 : Value).ownBlock) (Kd.R_apart' (HO160.out) (Kd.S_typed HO_150003.out) (by decide)) (fun k_ hk => ⟨trivial, hk.2⟩))) (fun _ h_ => Or.inr (Or.inl h_))) (Kd.R_mono (Kd.R_tight rfl (Kd.R_mono (ok' := fun k_ => ((fun _ => True)) k_ ∧ some k_ ≠ (u150003 : Value).ownBlock) (Kd.R_apart' (HO163.out) (Kd.S_typed HO_150003.out) (by decide)) (fun k_ hk => ⟨trivial, hk.2⟩))) (fun _ h_ => Or.inr (Or.inr (h_)))))
         (case aB => exact (by repeat (first | (with_reducible first | exact HB.out | apply wa | apply wn | apply wd | refine ws ?_ GE147.out | refine ws ?_ GE148.out | refine ws ?_ GE149.out) | exact HB.out)))
         (case aF => exact (fun _ _ => trivial))
         (case aO => exact (by (with_reducible repeat (first | apply Kd.S_alloc | apply Kd.S_drewN | apply Kd.S_drew)); exact Kd.S_mono HO_150003.out (fun k_ hk => ⟨trivial, fun e_ => e_.elim (fun h_ => hk.1.1.2 h_) (fun h_ => h_.elim (fun h_ => hk.1.2 h_) (fun h_ => hk.2 h_))⟩)))
         (case aS => exact (below_size (by repeat (first | (with_reducible first | exact HB.out | apply wa | apply wn | apply wd | refine ws ?_ GE147.out | refine ws ?_ GE148.out | refine ws ?_ GE149.out) | exact HB.out))))
         (case aL => have := LMc26.out; omega)
         intro v168 w32 ho hb hg hat
         rw [← Ny167.out] at ho
         have n0_ := asd (Kd.R_over' (by (with_reducible repeat (first | apply Kd.R_alloc | apply Kd.R_drewN | apply Kd.R_drew)); exact HO_150002.out) (Kd.S_typed (by (with_reducible repeat (first | apply Kd.S_alloc | apply Kd.S_drewN | apply Kd.S_drew)); exact HO_150003.out)) (by decide) hg)
         have n1_ := asd (blk_grown (g := gb147) (o := .cells #[.int .i64 a0_0, .int .i64 a0_1, .slice A0_2 l0_2.length c0_2, .slice (some ad154) l0_3.length c0_3, .slice A0_4 l0_4.length c0_4] 26 (0, 0)) (by (with_reducible repeat first | apply bn | apply bd | apply ba); exact BK147.out) hg (Kd.S_ne HO_150003.out BK147.out (by decide)))
         have n2_ := asd (blk_grown (g := gb148) (o := .cells #[.int .i64 0, .int .i64 0, .slice none 0 0, .slice none 0 0, .slice none 0 0] 34 (0, 0)) (by (with_reducible repeat first | apply bn | apply bd | apply ba); exact BK148.out) hg (Kd.S_ne HO_150003.out BK148.out (by decide)))
         have n3_ := asd (blk_grown (g := gb149) (o := .cells #[.int .i64 a0_0, .int .i64 a0_1, u150002, u150003, .slice none 0 0] 34 (0, 0)) (by (with_reducible repeat first | apply bn | apply bd | apply ba); exact BK149.out) hg (Kd.S_ne HO_150003.out BK149.out (by decide)))
         have n4_ := asd (hb)
         have n5_ := asd (ho)
         clear HO_150002
         clear BK147
         clear BK148
         clear BK149
         clear HB
         clear HO_150003
         clear HO157
         clear HO160
         clear HO163
         have HO_150002 := n0_
         have BK147 := n1_
         have BK148 := n2_
         have BK149 := n3_
         have HB := n4_
         have HO169 := n5_
         clear n0_ n1_ n2_ n3_ n4_ n5_
         clear ho hb hg hat
         obtain ⟨Ao36, co36, eo36⟩ := Kd.S_slice HO169.out
         (first | subst eo36 | (injection eo36 with f1_ f2_ f3_; have f4_ := f1_.symm; have f5_ := f3_.symm; clear f1_ f2_ f3_; subst f4_; subst f5_))
         refine hK.out _ _ ⟨(blk_cell BK149.out 0).trans rfl, (blk_cell BK149.out 1).trans rfl, (blk_cell BK149.out 2).trans rfl, (blk_cell BK149.out 3).trans rfl, (blk_cell BK149.out 4).trans rfl, (blk_cell BK147.out 0).trans rfl, (blk_cell BK147.out 1).trans rfl, (blk_cell BK147.out 2).trans rfl, (blk_cell BK147.out 3).trans rfl, (blk_cell BK147.out 4).trans rfl, ((HB.out.cell (World.block_lt_of_cell? w _ hw154_0)).trans hw154_0), ((HB.out.cell (World.block_lt_of_cell? w _ hw154_1)).trans hw154_1), ((HB.out.cell (World.block_lt_of_cell? w _ hw154_2)).trans hw154_2), ((HB.out.cell (World.block_lt_of_cell? w _ hw154_3)).trans hw154_3), ((HB.out.cell (World.block_lt_of_cell? w _ hw154_4)).trans hw154_4), ((HB.out.cell (World.block_lt_of_cell? w _ hw154_5)).trans hw154_5)⟩ (fun hHeld => ?_)
         clear hK K
         refine norm_ (a' := ?_) ?_ ?_
         rotate_left
         ·show Act.put _ (some 45) _ = _
          simp only [Act.put, sB, i64_w, i32_w]
          rfl
         refine pure_ (i := 10) (N := some 46) (v := ?_) (a' := ?_) #[true, true, true, true, true, true, true, true, true, true, true, false] rfl rfl (any_of HT_.out (by kernel_rfl)) (fun _ _ _ h => h) (Or.inl ⟨by rfl, ?_⟩) ?_ ?_
         rotate_left
         ·intro w'
          go_simp
          with_reducible rfl
         rotate_left
         ·simp only [Act.put, sB, i64_w, i32_w]
          rfl
         refine last_ (i := 11) (N := none) #[true, true, true, true, true, true, true, true, true, true, true, true] rfl rfl (one_of HT_.out (by kernel_rfl)) (by decide) (fun K hK => ?_)
         have hs37 : w32.cell? ⟨gb149, 3, none⟩ = some (u150003) := (blk_cell BK149.out 3).trans rfl
         have hfs37 := blk_frozen BK149.out 3
         have hns37_0 := NB147_149.out
         have hns37_1 := NB148_149.out
         have hms37_0 := NB149_147.out
         have hms37_1 := NB149_148.out
         refine skip_ (w1 := ?_) (by rfl) rfl ?_ ?_
         rotate_left
         ·go_simp
          rfl
         refine hK.out _ _ ?_
         clear hK K
         refine done_ (done_of HT_.out (by kernel_rfl)) ?_
         try go_wp2
         go_roundg k2
         case measure => have := HK1.out; have := HK2.out; omega
         case rel => exact ⟨(wrap64 (x5_2 + 1)), (y167), (.slice Ao36 y167.length co36), (by first | rfl | (simp; done) | (simp [*]; done)), H', ⟨by have := HK1.out; have := HK2.out; omega⟩, ⟨by (with_reducible repeat (first | apply Kd.R_alloc | apply Kd.R_drewN | apply Kd.R_drew)); exact Kd.R_mono (Kd.R_far (p := ⟨gb149, 3, none⟩) (Kd.R_types HO_150002.out BK149.out (by decide)) (fun _ hk => hk.2) (.slice Ao36 y167.length co36)) (fun _ hk => trivial)⟩, ⟨by (with_reducible repeat (first | apply Kd.S_alloc | apply Kd.S_drewN | apply Kd.S_drew)); exact Kd.S_mono (Kd.S_far (p := ⟨gb149, 3, none⟩) (Kd.S_types HO169.out BK149.out (by decide)) (fun _ hk => hk.2) (.slice Ao36 y167.length co36)) (fun _ hk => trivial)⟩, ⟨by (with_reducible repeat first | apply bn | apply bd | apply ba); refine blk_far ?_ NB147_149.out _; (with_reducible repeat first | apply bn | apply bd | apply ba); exact BK147.out⟩, ⟨by (with_reducible repeat first | apply bn | apply bd | apply ba); refine blk_far ?_ NB148_149.out _; (with_reducible repeat first | apply bn | apply bd | apply ba); exact BK148.out⟩, ⟨by (with_reducible repeat first | apply bn | apply bd | apply ba); refine blk_put (cs := #[.int .i64 a0_0, .int .i64 a0_1, u150002, u150003, .slice none 0 0]) ?_ 3 _ rfl; (with_reducible repeat first | apply bn | apply bd | apply ba); exact BK149.out⟩, ⟨by repeat (first | (with_reducible first | exact HB.out | apply wa | apply wn | apply wd | refine ws ?_ GE147.out | refine ws ?_ GE148.out | refine ws ?_ GE149.out) | exact HB.out)⟩⟩
        ·rw [if_neg c26] at H
         exact absurd H (by simp)
       ·rw [if_neg c24] at H
        exact absurd H (by simp)
      ·rw [if_neg c23] at H
       have c23b0 : decide (x5_2 < (l0_3.length : Int)) = false := decide_eq_false c23
       clear c23
       have H' := asd H
       clear H
       have hnb38 := NB147_148.out
       have hnc38 := NB148_147.out
       have hnb39 := NB147_149.out
       have hnc39 := NB149_147.out
       have hcz40_0 : wr.cell? ⟨gb147, 0, none⟩ = some (.int .i64 a0_0) := (blk_cell BK147.out 0).trans rfl
       have hcz40_1 : wr.cell? ⟨gb147, 1, none⟩ = some (.int .i64 a0_1) := (blk_cell BK147.out 1).trans rfl
       have hcz40_2 : wr.cell? ⟨gb147, 2, none⟩ = some (.slice A0_2 l0_2.length c0_2) := (blk_cell BK147.out 2).trans rfl
       have hcz40_3 : wr.cell? ⟨gb147, 3, none⟩ = some (.slice A0_3 l0_3.length c0_3) := (blk_cell BK147.out 3).trans rfl
       have hcz40_4 : wr.cell? ⟨gb147, 4, none⟩ = some (.slice A0_4 l0_4.length c0_4) := (blk_cell BK147.out 4).trans rfl
       have hfz40_0 := blk_frozen BK147.out 0
       have hfz40_1 := blk_frozen BK147.out 1
       have hfz40_2 := blk_frozen BK147.out 2
       have hfz40_3 := blk_frozen BK147.out 3
       have hfz40_4 := blk_frozen BK147.out 4
       go_wp2
       go_loopg [6] k2 (fun kq v6 w' => ∃ (x6_3 : Int) (x150004_3 : List (S44)) (u150004 : Value), v6 = .int .i64 x6_3 ∧ Aside0 (parcloselaw03_Config.l2 kq x6_3 a0_0 a0_1 l0_2 l0_3 l0_4 a0_0 a0_1 x150002_1 x150003_2 x150004_3 = some (r1, r2, r3, r4, r5)) ∧ Aside0 (kq ≤ k2) ∧ Aside0 (Kd.R k42 42 w' w.heap.size (fun _ => True) u150002 x150002_1) ∧ Aside0 (Kd.S k49 49 w' w.heap.size (fun _ => True) u150003 x150003_2) ∧ Aside0 (Kd.R k44 44 w' w.heap.size (fun _ => True) u150004 x150004_3) ∧ Aside0 (w'.heap[gb147]? = some (.cells #[.int .i64 a0_0, .int .i64 a0_1, (.slice A0_2 l0_2.length c0_2), (.slice A0_3 l0_3.length c0_3), (.slice A0_4 l0_4.length c0_4)] 26 (0, 0))) ∧ Aside0 (w'.heap[gb148]? = some (.cells #[.int .i64 0, .int .i64 0, (.slice none 0 0), (.slice none 0 0), (.slice none 0 0)] 34 (0, 0))) ∧ Aside0 (w'.heap[gb149]? = some (.cells #[.int .i64 a0_0, .int .i64 a0_1, u150002, u150003, u150004] 34 (0, 0))) ∧ Aside0 (Below w.heap.size w w'))
       case atStart => exact ⟨(0), (([] : List (S44))), (.slice none 0 0), (by first | rfl | (simp; done) | (simp [*]; done)), H', ⟨Nat.le_refl _⟩, ⟨by (with_reducible repeat (first | apply Kd.R_alloc | apply Kd.R_drewN | apply Kd.R_drew)); exact HO_150002.out⟩, ⟨by (with_reducible repeat (first | apply Kd.S_alloc | apply Kd.S_drewN | apply Kd.S_drew)); exact HO_150003.out⟩, ⟨by first | exact Kd.R_nil _ _ _ _ _ | exact Kd.N_nil _ _ _ _ _ | exact Kd.V_nil _ _ _ _ _ | exact Kd.Q_nil _ _ _ _ _ | exact Kd.S_nil _ _ _ _ _⟩, ⟨by (with_reducible repeat first | apply bn | apply bd | apply ba); exact BK147.out⟩, ⟨by (with_reducible repeat first | apply bn | apply bd | apply ba); exact BK148.out⟩, ⟨by (with_reducible repeat first | apply bn | apply bd | apply ba); exact BK149.out⟩, ⟨by repeat (first | (with_reducible first | exact HB.out | apply wa | apply wn | apply wd | refine ws ?_ GE147.out | refine ws ?_ GE148.out | refine ws ?_ GE149.out) | exact HB.out)⟩⟩
       case round =>
        clear H'
        try clear c1
        try clear p1
        try clear q1
        try clear hx1
        try clear c2
        try clear p2
        try clear c3
        try clear c4
        try clear p6
        try clear c7
        try clear c8
        try clear c10
        try clear c10b0
        try clear c11
        try clear c11b0
        try clear c12
        try clear c13
        try clear c14
        try clear c15
        try clear p15
        try clear q15
        try clear hx15
        try clear c17
        try clear c20
        try clear c21
        try clear c23
        try clear c23b0
        try clear c24
        try clear c24b0
        try clear c26
        try clear c27
        try clear c28
        try clear c31
        try clear c38
        try clear c39
        try clear hcz15_0
        try clear hcz15_1
        try clear hcz15_2
        try clear hcz15_3
        try clear hcz15_4
        try clear hcz22_0
        try clear hcz22_1
        try clear hcz22_2
        try clear hcz22_3
        try clear hcz22_4
        try clear hcz29_0
        try clear hcz29_1
        try clear hcz29_2
        try clear hcz29_3
        try clear hcz29_4
        try clear hcz40_0
        try clear hcz40_1
        try clear hcz40_2
        try clear hcz40_3
        try clear hcz40_4
        try clear hcz5_0
        try clear hcz5_1
        try clear hcz5_2
        try clear hcz5_3
        try clear hcz5_4
        try clear hcz9_0
        try clear hcz9_1
        try clear hcz9_2
        try clear hcz9_3
        try clear hcz9_4
        try clear hfz15_0
        try clear hfz15_1
        try clear hfz15_2
        try clear hfz15_3
        try clear hfz15_4
        try clear hfz22_0
        try clear hfz22_1
        try clear hfz22_2
        try clear hfz22_3
        try clear hfz22_4
        try clear hfz29_0
        try clear hfz29_1
        try clear hfz29_2
        try clear hfz29_3
        try clear hfz29_4
        try clear hfz40_0
        try clear hfz40_1
        try clear hfz40_2
        try clear hfz40_3
        try clear hfz40_4
        try clear hfz5_0
        try clear hfz5_1
        try clear hfz5_2
        try clear hfz5_3
        try clear hfz5_4
        try clear hfz9_0
        try clear hfz9_1
        try clear hfz9_2
        try clear hfz9_3
        try clear hfz9_4
        try clear hx150_0
        try clear hx150_1
        try clear hx150_2
        try clear hx154_0
        try clear hx154_1
        try clear hx154_2
        try clear hx154_3
        try clear hx154_4
        try clear hx154_5
        try clear p1
        try clear p15
        try clear p150
        try clear p154
        try clear p2
        try clear p6
        try clear q1
        try clear q15
        try clear q150
        try clear q154
        obtain ⟨x6_3, x150004_3, u150004, rfl, HA, HK3, HO_150002, HO_150003, HO_150004, BK147, BK148, BK149, HB⟩ := hrel
        cases gk with
        | zero => exact absurd HA.out (by simp [parcloselaw03_Config.l2])
        | succ k3 =>
         have H := HA.out
         clear HA
         simp only [parcloselaw03_Config.l2] at H
         by_cases c41 : x6_3 < (l0_4.length : Int)
         ·rw [if_pos c41] at H
          have c41b0 : decide (x6_3 < (l0_4.length : Int)) = true := decide_eq_true c41
          clear c41
          by_cases c42 : 0 ≤ x6_3
          ·rw [if_pos c42] at H
           have c42b0 : decide (0 ≤ x6_3) = true := decide_eq_true c42
           clear c42
           by_cases c43 : x150004_3.length < 4398046511104
           ·rw [if_pos c43] at H
            have LMc43 := asd c43
            clear c43
            obtain ⟨y171, hy171⟩ : ∃ y_ : List (S44), y_ = (x150004_3 ++ [(⟨(rd_T78 l0_4 x6_3).f0, (rd_T78 l0_4 x6_3).f1, (rd_T78 l0_4 x6_3).f2, (rd_T78 l0_4 x6_3).f3⟩ : S44)]) := ⟨_, rfl⟩
            replace H : (parcloselaw03_Config.l2 k3 (wrap64 (x6_3 + 1)) a0_0 a0_1 l0_2 l0_3 l0_4 a0_0 a0_1 x150002_1 x150003_2 y171) = some (r1, r2, r3, r4, r5) := by first | (rw [hy171]; with_reducible exact H) | (have H2_ := (Option.bind_some _ _).symm.trans H; rw [hy171]; with_reducible exact H2_) | (have H2_ := (Option.bind_some _ _).symm.trans H; with_reducible exact H2_) | with_reducible exact H | (rw [hy171]; exact H) | exact H
            have Ny171 := asd hy171
            clear hy171
            have H' := asd H
            clear H
            have hnb44 := NB147_148.out
            have hnc44 := NB148_147.out
            have hnb45 := NB147_149.out
            have hnc45 := NB149_147.out
            have hcz46_0 : wr.cell? ⟨gb147, 0, none⟩ = some (.int .i64 a0_0) := (blk_cell BK147.out 0).trans rfl
            have hcz46_1 : wr.cell? ⟨gb147, 1, none⟩ = some (.int .i64 a0_1) := (blk_cell BK147.out 1).trans rfl
            have hcz46_2 : wr.cell? ⟨gb147, 2, none⟩ = some (.slice A0_2 l0_2.length c0_2) := (blk_cell BK147.out 2).trans rfl
            have hcz46_3 : wr.cell? ⟨gb147, 3, none⟩ = some (.slice A0_3 l0_3.length c0_3) := (blk_cell BK147.out 3).trans rfl
            have hcz46_4 : wr.cell? ⟨gb147, 4, none⟩ = some (.slice A0_4 l0_4.length c0_4) := (blk_cell BK147.out 4).trans rfl
            have hfz46_0 := blk_frozen BK147.out 0
            have hfz46_1 := blk_frozen BK147.out 1
            have hfz46_2 := blk_frozen BK147.out 2
            have hfz46_3 := blk_frozen BK147.out 3
            have hfz46_4 := blk_frozen BK147.out 4
            try go_wp2
            have n0_ := asd (Kd.R_drew HO_150002.out)
            have n1_ := asd (Kd.S_drew HO_150003.out)
            have n2_ := asd (Kd.R_drew HO_150004.out)
            have n3_ := asd (blk_drew BK147.out)
            have n4_ := asd (blk_drew BK148.out)
            have n5_ := asd (blk_drew BK149.out)
            have n6_ := asd (below_drew1 HB.out)
            clear HO_150002
            clear HO_150003
            clear HO_150004
            clear BK147
            clear BK148
            clear BK149
            clear HB
            have HO_150002 := n0_
            have HO_150003 := n1_
            have HO_150004 := n2_
            have BK147 := n3_
            have BK148 := n4_
            have BK149 := n5_
            have HB := n6_
            clear n0_ n1_ n2_ n3_ n4_ n5_ n6_
            have p170 : 0 ≤ (x6_3 : Int) := of_decide_eq_true (by assumption)
            have q170 : x6_3 < (l0_4.length : Int) := of_decide_eq_true (by assumption)
            obtain ⟨ad170, e170, hx170_0, hx170_1, hx170_2, hx170_3⟩ := at_T78 HR0_4.out x6_3 p170 q170
            have hw170_3 := hx170_3
            have hw170_2 := hx170_2
            have hw170_1 := hx170_1
            have hw170_0 := hx170_0
            cases e170
            replace hx170_0 := (HB.out.cell (World.block_lt_of_cell? w _ hx170_0)).trans hx170_0
            replace hx170_1 := (HB.out.cell (World.block_lt_of_cell? w _ hx170_1)).trans hx170_1
            replace hx170_2 := (HB.out.cell (World.block_lt_of_cell? w _ hx170_2)).trans hx170_2
            replace hx170_3 := (HB.out.cell (World.block_lt_of_cell? w _ hx170_3)).trans hx170_3
            replace p170 := eq_true p170
            replace q170 := eq_true q170
            refine start_ (n := 11) (S := fun w' => w'.cell? ⟨gb149, 0, none⟩ = some (.int .i64 a0_0) ∧ w'.cell? ⟨gb149, 1, none⟩ = some (.int .i64 a0_1) ∧ w'.cell? ⟨gb149, 2, none⟩ = some (u150002) ∧ w'.cell? ⟨gb149, 3, none⟩ = some (u150003) ∧ w'.cell? ⟨gb149, 4, none⟩ = some (u150004) ∧ w'.cell? ⟨gb147, 0, none⟩ = some (.int .i64 a0_0) ∧ w'.cell? ⟨gb147, 1, none⟩ = some (.int .i64 a0_1) ∧ w'.cell? ⟨gb147, 2, none⟩ = some (.slice A0_2 l0_2.length c0_2) ∧ w'.cell? ⟨gb147, 3, none⟩ = some (.slice A0_3 l0_3.length c0_3) ∧ w'.cell? ⟨gb147, 4, none⟩ = some (.slice (some ad170) l0_4.length c0_4) ∧ w'.cell? (ad170.add ((x6_3).toNat * 4)) = some (.bool ((rd_T78 l0_4 x6_3).f0)) ∧ w'.cell? ⟨(ad170.add ((x6_3).toNat * 4)).block, (ad170.add ((x6_3).toNat * 4)).off + 1, none⟩ = some (.int .i64 ((rd_T78 l0_4 x6_3).f1)) ∧ w'.cell? ⟨(ad170.add ((x6_3).toNat * 4)).block, (ad170.add ((x6_3).toNat * 4)).off + 2, none⟩ = some (.int .i64 ((rd_T78 l0_4 x6_3).f2)) ∧ w'.cell? ⟨(ad170.add ((x6_3).toNat * 4)).block, (ad170.add ((x6_3).toNat * 4)).off + 3, none⟩ = some (.int .i64 ((rd_T78 l0_4 x6_3).f3))) (ds := [10]) #[false, false, false, false, false, false, false, false, false, false, false] (by kernel_rfl) rfl rfl ⟨(blk_cell BK149.out 0).trans rfl, (blk_cell BK149.out 1).trans rfl, (blk_cell BK149.out 2).trans rfl, (blk_cell BK149.out 3).trans rfl, (blk_cell BK149.out 4).trans rfl, (blk_cell BK147.out 0).trans rfl, (blk_cell BK147.out 1).trans rfl, (blk_cell BK147.out 2).trans rfl, (blk_cell BK147.out 3).trans rfl, (blk_cell BK147.out 4).trans rfl, ((HB.out.cell (World.block_lt_of_cell? w _ hw170_0)).trans hw170_0), ((HB.out.cell (World.block_lt_of_cell? w _ hw170_1)).trans hw170_1), ((HB.out.cell (World.block_lt_of_cell? w _ hw170_2)).trans hw170_2), ((HB.out.cell (World.block_lt_of_cell? w _ hw170_3)).trans hw170_3)⟩ (fun hHeld => ?_); refine with_tabW parcloselaw03_Config.tab13 parcloselaw03_Config.bits13 (fun HT_ HW_ => ?_)
            generalize wr.drew = w47 at HO_150002 HO_150003 HO_150004 BK147 BK148 BK149 HB hx170_0 hx170_1 hx170_2 hx170_3 hHeld ⊢
            refine pure_ (i := 0) (N := some 54) (v := ?_) (a' := ?_) #[true, false, false, false, false, false, false, false, false, false, false] rfl rfl (any_of HT_.out (by kernel_rfl)) (fun _ _ _ h => h) (Or.inl ⟨by rfl, ?_⟩) ?_ ?_
            rotate_left
            ·intro w'
             go_simp
             with_reducible rfl
            rotate_left
            ·simp only [Act.put, sB, i64_w, i32_w]
             rfl
            refine pure_ (i := 2) (N := some 56) (v := ?_) (a' := ?_) #[true, false, true, false, false, false, false, false, false, false, false] rfl rfl (any_of HT_.out (by kernel_rfl)) (fun _ _ _ h => h) (Or.inl ⟨by rfl, ?_⟩) ?_ ?_
            rotate_left
            ·intro w'
             go_simp
             with_reducible rfl
            rotate_left
            ·simp only [Act.put, sB, i64_w, i32_w]
             rfl
            refine pure_ (i := 4) (N := some 58) (v := ?_) (a' := ?_) #[true, false, true, false, true, false, false, false, false, false, false] rfl rfl (any_of HT_.out (by kernel_rfl)) (fun _ _ _ h => h) (Or.inl ⟨by rfl, ?_⟩) ?_ ?_
            rotate_left
            ·intro w'
             go_simp
             with_reducible rfl
            rotate_left
            ·simp only [Act.put, sB, i64_w, i32_w]
             rfl
            refine take_ (i := 1) (N := some 55) (v := ?_) (a' := ?_) #[true, true, true, false, true, false, false, false, false, false, false] rfl rfl (take_ofW HT_.out HW_.out (by kernel_rfl)) (fun _ _ _ h => h) (Or.inl ⟨by rfl, ?_⟩) hHeld ?_ ?_
            rotate_left
            ·rintro w' ⟨s0, s1, s2, s3, s4, s5, s6, s7, s8, s9, s10, s11, s12, s13⟩
             go_simp
             with_reducible rfl
            rotate_left
            ·simp only [Act.put, sB, i64_w, i32_w]
             rfl
            refine take_ (i := 3) (N := some 57) (v := ?_) (a' := ?_) #[true, true, true, true, true, false, false, false, false, false, false] rfl rfl (take_ofW HT_.out HW_.out (by kernel_rfl)) (fun _ _ _ h => h) (Or.inl ⟨by rfl, ?_⟩) hHeld ?_ ?_
            rotate_left
            ·rintro w' ⟨s0, s1, s2, s3, s4, s5, s6, s7, s8, s9, s10, s11, s12, s13⟩
             go_simp
             with_reducible rfl
            rotate_left
            ·simp only [Act.put, sB, i64_w, i32_w]
             rfl
            refine pure_ (i := 5) (N := some 59) (v := ?_) (a' := ?_) #[true, true, true, true, true, true, false, false, false, false, false] rfl rfl (any_of HT_.out (by kernel_rfl)) (fun _ _ _ h => h) (Or.inl ⟨by rfl, ?_⟩) ?_ ?_
            rotate_left
            ·intro w'
             go_simp
             with_reducible rfl
            rotate_left
            ·simp only [Act.put, sB, i64_w, i32_w]
             rfl
            refine take_ (i := 6) (N := some 60) (v := ?_) (a' := ?_) #[true, true, true, true, true, true, true, false, false, false, false] rfl rfl (take_ofW HT_.out HW_.out (by kernel_rfl)) (fun _ _ _ h => h) (Or.inl ⟨by rfl, ?_⟩) hHeld ?_ ?_
            rotate_left
            ·rintro w' ⟨s0, s1, s2, s3, s4, s5, s6, s7, s8, s9, s10, s11, s12, s13⟩
             go_simp
             with_reducible rfl
            rotate_left
            ·simp only [Act.put, sB, i64_w, i32_w]
             rfl
            refine one_ (i := 7) (N := some 61) #[true, true, true, true, true, true, true, true, false, false, false] rfl rfl (one_of HT_.out (by kernel_rfl)) (by decide) (fun K hK => ?_)
            refine value_ (w1 := ?_) (v := ?_) (by rfl) rfl ?_ ?_
            rotate_left 2
            ·go_simp
             constructor
             ·rfl
             ·rfl
            refine hK.out _ _ ⟨(blk_cell (blk_alloc BK149.out _) 0).trans rfl, (blk_cell (blk_alloc BK149.out _) 1).trans rfl, (blk_cell (blk_alloc BK149.out _) 2).trans rfl, (blk_cell (blk_alloc BK149.out _) 3).trans rfl, (blk_cell (blk_alloc BK149.out _) 4).trans rfl, (blk_cell (blk_alloc BK147.out _) 0).trans rfl, (blk_cell (blk_alloc BK147.out _) 1).trans rfl, (blk_cell (blk_alloc BK147.out _) 2).trans rfl, (blk_cell (blk_alloc BK147.out _) 3).trans rfl, (blk_cell (blk_alloc BK147.out _) 4).trans rfl, (World.cell?_alloc_lt _ _ _ (World.block_lt_of_cell? _ _ (((HB.out.cell (World.block_lt_of_cell? w _ hw170_0)).trans hw170_0)))).trans (((HB.out.cell (World.block_lt_of_cell? w _ hw170_0)).trans hw170_0)), (World.cell?_alloc_lt _ _ _ (World.block_lt_of_cell? _ _ (((HB.out.cell (World.block_lt_of_cell? w _ hw170_1)).trans hw170_1)))).trans (((HB.out.cell (World.block_lt_of_cell? w _ hw170_1)).trans hw170_1)), (World.cell?_alloc_lt _ _ _ (World.block_lt_of_cell? _ _ (((HB.out.cell (World.block_lt_of_cell? w _ hw170_2)).trans hw170_2)))).trans (((HB.out.cell (World.block_lt_of_cell? w _ hw170_2)).trans hw170_2)), (World.cell?_alloc_lt _ _ _ (World.block_lt_of_cell? _ _ (((HB.out.cell (World.block_lt_of_cell? w _ hw170_3)).trans hw170_3)))).trans (((HB.out.cell (World.block_lt_of_cell? w _ hw170_3)).trans hw170_3))⟩ (fun hHeld => ?_)
            clear hK K
            refine norm_ (a' := ?_) ?_ ?_
            rotate_left
            ·show Act.put _ (some 61) _ = _
             simp only [Act.put, sB, i64_w, i32_w]
             rfl
            refine one_ (i := 8) (N := some 62) #[true, true, true, true, true, true, true, true, true, false, false] rfl rfl (one_of HT_.out (by kernel_rfl)) (by decide) (fun K hK => ?_)
            refine Kd.R_append_step k44 (w0 := w) w.heap.size (by rfl) (.tmp 55) (.tmp 61) 32 44 (.agg #[(.bool false), (.int .i64 0), (.int .i64 0), (.int .i64 0)]) 32 rfl Try.underlying32 info44 rfl (by decide) (by omega) u150004 x150004_3 (⟨(rd_T78 l0_4 x6_3).f0, (rd_T78 l0_4 x6_3).f1, (rd_T78 l0_4 x6_3).f2, (rd_T78 l0_4 x6_3).f3⟩ : S44) [.bool ((rd_T78 l0_4 x6_3).f0), .int .i64 ((rd_T78 l0_4 x6_3).f1), .int .i64 ((rd_T78 l0_4 x6_3).f2), .int .i64 ((rd_T78 l0_4 x6_3).f3)] (fun _ => True) (fun _ => False) rfl rfl ?aP (fun _ hk => hk.elim) ?aF ?aO ?aB ?aS ?aL ?_
            (case aP => exact k44_mkM _ _ _ (⟨(rd_T78 l0_4 x6_3).f0, (rd_T78 l0_4 x6_3).f1, (rd_T78 l0_4 x6_3).f2, (rd_T78 l0_4 x6_3).f3⟩ : S44))
            (case aB => exact (by repeat (first | (with_reducible first | exact HB.out | apply wa | apply wn | apply wd | refine ws ?_ GE147.out | refine ws ?_ GE148.out | refine ws ?_ GE149.out) | exact HB.out)))
            (case aF => exact (fun _ _ => trivial))
            (case aO => exact (by (with_reducible repeat (first | apply Kd.R_alloc | apply Kd.R_drewN | apply Kd.R_drew)); exact HO_150004.out))
            (case aS => exact (below_size (by repeat (first | (with_reducible first | exact HB.out | apply wa | apply wn | apply wd | refine ws ?_ GE147.out | refine ws ?_ GE148.out | refine ws ?_ GE149.out) | exact HB.out))))
            (case aL => have := LMc43.out; omega)
            intro v172 w48 ho hb hg hat
            rw [← Ny171.out] at ho
            have n0_ := asd (Kd.R_over' (by (with_reducible repeat (first | apply Kd.R_alloc | apply Kd.R_drewN | apply Kd.R_drew)); exact HO_150002.out) (Kd.R_typed (by (with_reducible repeat (first | apply Kd.R_alloc | apply Kd.R_drewN | apply Kd.R_drew)); exact HO_150004.out)) (by decide) hg)
            have n1_ := asd (Kd.S_over' (by (with_reducible repeat (first | apply Kd.S_alloc | apply Kd.S_drewN | apply Kd.S_drew)); exact HO_150003.out) (Kd.R_typed (by (with_reducible repeat (first | apply Kd.R_alloc | apply Kd.R_drewN | apply Kd.R_drew)); exact HO_150004.out)) (by decide) hg)
            have n2_ := asd (blk_grown (g := gb147) (o := .cells #[.int .i64 a0_0, .int .i64 a0_1, .slice A0_2 l0_2.length c0_2, .slice A0_3 l0_3.length c0_3, .slice (some ad170) l0_4.length c0_4] 26 (0, 0)) (by (with_reducible repeat first | apply bn | apply bd | apply ba); exact BK147.out) hg (Kd.R_ne HO_150004.out BK147.out (by decide)))
            have n3_ := asd (blk_grown (g := gb148) (o := .cells #[.int .i64 0, .int .i64 0, .slice none 0 0, .slice none 0 0, .slice none 0 0] 34 (0, 0)) (by (with_reducible repeat first | apply bn | apply bd | apply ba); exact BK148.out) hg (Kd.R_ne HO_150004.out BK148.out (by decide)))
            have n4_ := asd (blk_grown (g := gb149) (o := .cells #[.int .i64 a0_0, .int .i64 a0_1, u150002, u150003, u150004] 34 (0, 0)) (by (with_reducible repeat first | apply bn | apply bd | apply ba); exact BK149.out) hg (Kd.R_ne HO_150004.out BK149.out (by decide)))
            have n5_ := asd (hb)
            have n6_ := asd (ho)
            clear HO_150002
            clear HO_150003
            clear BK147
            clear BK148
            clear BK149
            clear HB
            clear HO_150004
            have HO_150002 := n0_
            have HO_150003 := n1_
            have BK147 := n2_
            have BK148 := n3_
            have BK149 := n4_
            have HB := n5_
            have HO173 := n6_
            clear n0_ n1_ n2_ n3_ n4_ n5_ n6_
            clear ho hb hg hat
            obtain ⟨Ao49, co49, eo49⟩ := Kd.R_slice HO173.out
            (first | subst eo49 | (injection eo49 with f1_ f2_ f3_; have f4_ := f1_.symm; have f5_ := f3_.symm; clear f1_ f2_ f3_; subst f4_; subst f5_))
            refine hK.out _ _ ⟨(blk_cell BK149.out 0).trans rfl, (blk_cell BK149.out 1).trans rfl, (blk_cell BK149.out 2).trans rfl, (blk_cell BK149.out 3).trans rfl, (blk_cell BK149.out 4).trans rfl, (blk_cell BK147.out 0).trans rfl, (blk_cell BK147.out 1).trans rfl, (blk_cell BK147.out 2).trans rfl, (blk_cell BK147.out 3).trans rfl, (blk_cell BK147.out 4).trans rfl, ((HB.out.cell (World.block_lt_of_cell? w _ hw170_0)).trans hw170_0), ((HB.out.cell (World.block_lt_of_cell? w _ hw170_1)).trans hw170_1), ((HB.out.cell (World.block_lt_of_cell? w _ hw170_2)).trans hw170_2), ((HB.out.cell (World.block_lt_of_cell? w _ hw170_3)).trans hw170_3)⟩ (fun hHeld => ?_)
            clear hK K
            refine norm_ (a' := ?_) ?_ ?_
            rotate_left
            ·show Act.put _ (some 62) _ = _
             simp only [Act.put, sB, i64_w, i32_w]
             rfl
            refine pure_ (i := 9) (N := some 63) (v := ?_) (a' := ?_) #[true, true, true, true, true, true, true, true, true, true, false] rfl rfl (any_of HT_.out (by kernel_rfl)) (fun _ _ _ h => h) (Or.inl ⟨by rfl, ?_⟩) ?_ ?_
            rotate_left
            ·intro w'
             go_simp
             with_reducible rfl
            rotate_left
            ·simp only [Act.put, sB, i64_w, i32_w]
             rfl
            refine last_ (i := 10) (N := none) #[true, true, true, true, true, true, true, true, true, true, true] rfl rfl (one_of HT_.out (by kernel_rfl)) (by decide) (fun K hK => ?_)
            have hs50 : w48.cell? ⟨gb149, 4, none⟩ = some (u150004) := (blk_cell BK149.out 4).trans rfl
            have hfs50 := blk_frozen BK149.out 4
            have hns50_0 := NB147_149.out
            have hns50_1 := NB148_149.out
            have hms50_0 := NB149_147.out
            have hms50_1 := NB149_148.out
            refine skip_ (w1 := ?_) (by rfl) rfl ?_ ?_
            rotate_left
            ·go_simp
             rfl
            refine hK.out _ _ ?_
            clear hK K
            refine done_ (done_of HT_.out (by kernel_rfl)) ?_
            try go_wp2
            go_roundg k3
            case measure => have := HK1.out; have := HK2.out; have := HK3.out; omega
            case rel => exact ⟨(wrap64 (x6_3 + 1)), (y171), (.slice Ao49 y171.length co49), (by first | rfl | (simp; done) | (simp [*]; done)), H', ⟨by have := HK1.out; have := HK2.out; have := HK3.out; omega⟩, ⟨by (with_reducible repeat (first | apply Kd.R_alloc | apply Kd.R_drewN | apply Kd.R_drew)); exact Kd.R_mono (Kd.R_far (p := ⟨gb149, 4, none⟩) (Kd.R_types HO_150002.out BK149.out (by decide)) (fun _ hk => hk.2) (.slice Ao49 y171.length co49)) (fun _ hk => trivial)⟩, ⟨by (with_reducible repeat (first | apply Kd.S_alloc | apply Kd.S_drewN | apply Kd.S_drew)); exact Kd.S_mono (Kd.S_far (p := ⟨gb149, 4, none⟩) (Kd.S_types HO_150003.out BK149.out (by decide)) (fun _ hk => hk.2) (.slice Ao49 y171.length co49)) (fun _ hk => trivial)⟩, ⟨by (with_reducible repeat (first | apply Kd.R_alloc | apply Kd.R_drewN | apply Kd.R_drew)); exact Kd.R_mono (Kd.R_far (p := ⟨gb149, 4, none⟩) (Kd.R_types HO173.out BK149.out (by decide)) (fun _ hk => hk.2) (.slice Ao49 y171.length co49)) (fun _ hk => trivial)⟩, ⟨by (with_reducible repeat first | apply bn | apply bd | apply ba); refine blk_far ?_ NB147_149.out _; (with_reducible repeat first | apply bn | apply bd | apply ba); exact BK147.out⟩, ⟨by (with_reducible repeat first | apply bn | apply bd | apply ba); refine blk_far ?_ NB148_149.out _; (with_reducible repeat first | apply bn | apply bd | apply ba); exact BK148.out⟩, ⟨by (with_reducible repeat first | apply bn | apply bd | apply ba); refine blk_put (cs := #[.int .i64 a0_0, .int .i64 a0_1, u150002, u150003, u150004]) ?_ 4 _ rfl; (with_reducible repeat first | apply bn | apply bd | apply ba); exact BK149.out⟩, ⟨by repeat (first | (with_reducible first | exact HB.out | apply wa | apply wn | apply wd | refine ws ?_ GE147.out | refine ws ?_ GE148.out | refine ws ?_ GE149.out) | exact HB.out)⟩⟩
           ·rw [if_neg c43] at H
            exact absurd H (by simp)
          ·rw [if_neg c42] at H
           exact absurd H (by simp)
         ·rw [if_neg c41] at H
          have c41b0 : decide (x6_3 < (l0_4.length : Int)) = false := decide_eq_false c41
          clear c41
          simp only [Option.some.injEq, Prod.mk.injEq] at H
          obtain ⟨rfl, rfl, rfl, rfl, rfl⟩ := H
          have hnb51 := NB147_148.out
          have hnc51 := NB148_147.out
          have hnb52 := NB147_149.out
          have hnc52 := NB149_147.out
          have hcz53_0 : wr.cell? ⟨gb147, 0, none⟩ = some (.int .i64 a0_0) := (blk_cell BK147.out 0).trans rfl
          have hcz53_1 : wr.cell? ⟨gb147, 1, none⟩ = some (.int .i64 a0_1) := (blk_cell BK147.out 1).trans rfl
          have hcz53_2 : wr.cell? ⟨gb147, 2, none⟩ = some (.slice A0_2 l0_2.length c0_2) := (blk_cell BK147.out 2).trans rfl
          have hcz53_3 : wr.cell? ⟨gb147, 3, none⟩ = some (.slice A0_3 l0_3.length c0_3) := (blk_cell BK147.out 3).trans rfl
          have hcz53_4 : wr.cell? ⟨gb147, 4, none⟩ = some (.slice A0_4 l0_4.length c0_4) := (blk_cell BK147.out 4).trans rfl
          have hfz53_0 := blk_frozen BK147.out 0
          have hfz53_1 := blk_frozen BK147.out 1
          have hfz53_2 := blk_frozen BK147.out 2
          have hfz53_3 := blk_frozen BK147.out 3
          have hfz53_4 := blk_frozen BK147.out 4
          have hnb54 := NB149_148.out
          have hnc54 := NB148_149.out
          have hcz55_0 : wr.cell? ⟨gb149, 0, none⟩ = some (.int .i64 a0_0) := (blk_cell BK149.out 0).trans rfl
          have hcz55_1 : wr.cell? ⟨gb149, 1, none⟩ = some (.int .i64 a0_1) := (blk_cell BK149.out 1).trans rfl
          have hcz55_2 : wr.cell? ⟨gb149, 2, none⟩ = some (u150002) := (blk_cell BK149.out 2).trans rfl
          have hcz55_3 : wr.cell? ⟨gb149, 3, none⟩ = some (u150003) := (blk_cell BK149.out 3).trans rfl
          have hcz55_4 : wr.cell? ⟨gb149, 4, none⟩ = some (u150004) := (blk_cell BK149.out 4).trans rfl
          have hfz55_0 := blk_frozen BK149.out 0
          have hfz55_1 := blk_frozen BK149.out 1
          have hfz55_2 := blk_frozen BK149.out 2
          have hfz55_3 := blk_frozen BK149.out 3
          have hfz55_4 := blk_frozen BK149.out 4
          have hcz56_0 : wr.cell? ⟨gb148, 0, none⟩ = some (.int .i64 0) := (blk_cell BK148.out 0).trans rfl
          have hcz56_1 : wr.cell? ⟨gb148, 1, none⟩ = some (.int .i64 0) := (blk_cell BK148.out 1).trans rfl
          have hcz56_2 : wr.cell? ⟨gb148, 2, none⟩ = some (.slice none 0 0) := (blk_cell BK148.out 2).trans rfl
          have hcz56_3 : wr.cell? ⟨gb148, 3, none⟩ = some (.slice none 0 0) := (blk_cell BK148.out 3).trans rfl
          have hcz56_4 : wr.cell? ⟨gb148, 4, none⟩ = some (.slice none 0 0) := (blk_cell BK148.out 4).trans rfl
          have hfz56_0 := blk_frozen BK148.out 0
          have hfz56_1 := blk_frozen BK148.out 1
          have hfz56_2 := blk_frozen BK148.out 2
          have hfz56_3 := blk_frozen BK148.out 3
          have hfz56_4 := blk_frozen BK148.out 4
          obtain ⟨Ao57, co57, eo57⟩ := Kd.R_slice HO_150002.out
          subst eo57
          obtain ⟨Ao58, co58, eo58⟩ := Kd.S_slice HO_150003.out
          subst eo58
          obtain ⟨Ao59, co59, eo59⟩ := Kd.R_slice HO_150004.out
          subst eo59
          go_wp2
          refine bodyPost_ret (results_cell_row rfl _ _ gb148 34 #[.int .i64 a0_0, .int .i64 a0_1, .slice Ao57 x150002_1.length co57, .slice Ao58 x150003_2.length co58, .slice Ao59 x150004_3.length co59] (0, 0) _ rfl (by (with_reducible repeat first | apply bn | apply bd | apply ba); refine blk_put (cs := #[.int .i64 a0_0, .int .i64 a0_1, .slice Ao57 x150002_1.length co57, .slice Ao58 x150003_2.length co58, .slice none 0 0]) ?_ 4 _ rfl; (with_reducible repeat first | apply bn | apply bd | apply ba); refine blk_put (cs := #[.int .i64 a0_0, .int .i64 a0_1, .slice Ao57 x150002_1.length co57, .slice none 0 0, .slice none 0 0]) ?_ 3 _ rfl; (with_reducible repeat first | apply bn | apply bd | apply ba); refine blk_put (cs := #[.int .i64 a0_0, .int .i64 a0_1, .slice none 0 0, .slice none 0 0, .slice none 0 0]) ?_ 2 _ rfl; (with_reducible repeat first | apply bn | apply bd | apply ba); refine blk_put (cs := #[.int .i64 a0_0, .int .i64 0, .slice none 0 0, .slice none 0 0, .slice none 0 0]) ?_ 1 _ rfl; (with_reducible repeat first | apply bn | apply bd | apply ba); refine blk_put (cs := #[.int .i64 0, .int .i64 0, .slice none 0 0, .slice none 0 0, .slice none 0 0]) ?_ 0 _ rfl; (with_reducible repeat first | apply bn | apply bd | apply ba); exact BK148.out) Try.underlying34 rfl (by kernel_rfl)) rfl ?_
          exact ⟨_, _, _, by first | rfl | (simp [*] <;> rfl), by (with_reducible repeat (first | apply Kd.R_alloc | apply Kd.R_drewN | apply Kd.R_drew)); exact Kd.R_mono (Kd.R_far (p := ⟨gb148, 4, none⟩) (Kd.R_far (p := ⟨gb148, 3, none⟩) (Kd.R_far (p := ⟨gb148, 2, none⟩) (Kd.R_far (p := ⟨gb148, 1, none⟩) (Kd.R_far (p := ⟨gb148, 0, none⟩) (Kd.R_types HO_150002.out BK148.out (by decide)) (fun _ hk => hk.2) (.int .i64 a0_0)) (fun _ hk => hk.2) (.int .i64 a0_1)) (fun _ hk => hk.2) (.slice Ao57 x150002_1.length co57)) (fun _ hk => hk.2) (.slice Ao58 x150003_2.length co58)) (fun _ hk => hk.2) (.slice Ao59 x150004_3.length co59)) (fun _ hk => trivial), by (with_reducible repeat (first | apply Kd.S_alloc | apply Kd.S_drewN | apply Kd.S_drew)); exact Kd.S_mono (Kd.S_far (p := ⟨gb148, 4, none⟩) (Kd.S_far (p := ⟨gb148, 3, none⟩) (Kd.S_far (p := ⟨gb148, 2, none⟩) (Kd.S_far (p := ⟨gb148, 1, none⟩) (Kd.S_far (p := ⟨gb148, 0, none⟩) (Kd.S_types HO_150003.out BK148.out (by decide)) (fun _ hk => hk.2) (.int .i64 a0_0)) (fun _ hk => hk.2) (.int .i64 a0_1)) (fun _ hk => hk.2) (.slice Ao57 x150002_1.length co57)) (fun _ hk => hk.2) (.slice Ao58 x150003_2.length co58)) (fun _ hk => hk.2) (.slice Ao59 x150004_3.length co59)) (fun _ hk => trivial), by (with_reducible repeat (first | apply Kd.R_alloc | apply Kd.R_drewN | apply Kd.R_drew)); exact Kd.R_mono (Kd.R_far (p := ⟨gb148, 4, none⟩) (Kd.R_far (p := ⟨gb148, 3, none⟩) (Kd.R_far (p := ⟨gb148, 2, none⟩) (Kd.R_far (p := ⟨gb148, 1, none⟩) (Kd.R_far (p := ⟨gb148, 0, none⟩) (Kd.R_types HO_150004.out BK148.out (by decide)) (fun _ hk => hk.2) (.int .i64 a0_0)) (fun _ hk => hk.2) (.int .i64 a0_1)) (fun _ hk => hk.2) (.slice Ao57 x150002_1.length co57)) (fun _ hk => hk.2) (.slice Ao58 x150003_2.length co58)) (fun _ hk => hk.2) (.slice Ao59 x150004_3.length co59)) (fun _ hk => trivial), by repeat (first | (with_reducible first | exact HB.out | apply wa | apply wn | apply wd | refine ws ?_ GE147.out | refine ws ?_ GE148.out | refine ws ?_ GE149.out) | exact HB.out)⟩
end Go.Proofs.Ytmjhnmdmopmfjaa.Fn
namespace Go.Proofs.Ytmjhnmdmopmfjaa.Fn
open Go.RowKit Go.Proofs.YtmjhnmdmopmfjaaW.PrintWords Go.Proofs.YtmjhnmdmopmfjaaW.PrintLast Go.Proofs.YtmjhnmdmopmfjaaW.PrintMore
set_option linter.unusedVariables false
set_option linter.unusedSimpArgs false
def conf_Window_50.f (l0 : List (S42)) : Option (List (S42)) := if l0.length < 5864062014805 then some l0 else none
theorem conf_Window_50.info : (Try.prog.info? 42).map (fun i => (i.zero, i.size, i.bytes)) = some (some (.agg #[(.int .i64 0), (.int .i64 0), (.int .i64 0)]), 3, 24) := by kernel_rfl
set_option maxHeartbeats 8000000 in
set_option maxRecDepth 100000 in
theorem conf_Window_50.calls (A0 : Option Addr) (c0 : Nat) (l0 : List (S42)) (r : List (S42)) (w : World) (hr0 : Kd.C k42 w A0 l0.length l0) (hc0 : l0.length ≤ c0) (h : conf_Window_50.f l0 = some r) :
  Calls Try.prog 50 #[.slice A0 l0.length c0] w fun e w' => ∃ v0_ : Value, e = .returned (v0_) ∧ Kd.R k42 42 w' w.heap.size (fun _ => True) v0_ r ∧ Below w.heap.size w w' := by
 unfold conf_Window_50.f at h
 by_cases c1 : l0.length < 5864062014805
 ·rw [if_pos c1] at h
  obtain rfl := Option.some.inj h
  have HR0 := asd hr0
  have HC1 := asd c1
  clear hr0 hc0 h c1
  have hq := fun (w : World) (a : Option Addr) n c => Lib.run_eql_slice_nil (P := Try.prog) w 30 42 a n c 0 0 Try.underlying30
  cases A0 with
  | none =>
   have e0 : l0 = [] := by
    rcases Nat.eq_zero_or_pos l0.length with h0 | h0
    ·exact List.eq_nil_of_length_eq_zero h0
    ·obtain ⟨ad, h, _⟩ := HR0.out.2.2 h0; cases h
   subst e0
   go_enter Try.func50, Try.ntmps50
   go_wp2
   go_ret
   exact ⟨_, rfl, Kd.R_nil _ _ _ _ _, Below.refl _ _⟩
  | some ad =>
   go_enter Try.func50, Try.ntmps50
   go_wp2_with (first | ((with_reducible refine gate_dst (N := 5) rfl ?_); refine Kd.R_lit k42 _ 42 ?hg (N := 5) ?hd (xs := ([] : List (S42))) (inner := []) (ok := fun _ => True) (okp := fun _ => True) ?hr ?hp (fun _ hk => hk) trivial (Below.refl _ _) (Nat.le_refl _) (by simp) ?_; (case hd => rfl); (case hg => rfl); (case hr => first | (go_simp; done) | (go_simp; rfl)); (case hp => exact (Reps.none _ _)); intro v1 w1 ho hb hg hat; have HO := asd ho; have HB := asd hb; clear ho hb hg hat) | ((with_reducible refine gate_builtin (b := .append) (xs := #[.tmp 5, .tmp 6]) rfl ?_); at_builtin; refine Kd.R_append_rows k42 (w0 := w) w.heap.size rfl (.tmp 5) (.tmp 6) 30 42 (.agg #[(.int .i64 0), (.int .i64 0), (.int .i64 0)]) 24 rfl Try.underlying30 conf_Window_50.info rfl (by decide) (by omega) v1 [] l0 _ _ _ (fun _ => True) (fun _ => False) rfl rfl ?aO ?aR (fun _ _ h => h) (fun _ h => h.elim) ?aF ?aB ?aS ?aL ?_; (case aR => exact Kd.C_below HR0.out HB.out); (case aB => exact HB.out); (case aF => exact (fun _ _ => trivial)); (case aO => exact HO.out); (case aS => exact HB.out.size); (case aL => have := HC1.out; simp only [List.length_nil]; omega); intro v2 w2 ho2 hb2 hg2 hat2; have HO2 := asd ho2; have HB2 := asd hb2; clear ho2 hb2 hg2 hat2))
   go_ret
   exact ⟨_, rfl, HO2.out, HB2.out⟩
 ·rw [if_neg c1] at h; cases h
def conf_Channel_51.f (l0 : List (S44)) : Option (List (S44)) := if l0.length < 4398046511104 then some l0 else none
theorem conf_Channel_51.info : (Try.prog.info? 44).map (fun i => (i.zero, i.size, i.bytes)) = some (some (.agg #[(.bool false), (.int .i64 0), (.int .i64 0), (.int .i64 0)]), 4, 32) := by kernel_rfl
set_option maxHeartbeats 8000000 in
set_option maxRecDepth 100000 in
theorem conf_Channel_51.calls (A0 : Option Addr) (c0 : Nat) (l0 : List (S44)) (r : List (S44)) (w : World) (hr0 : Kd.C k44 w A0 l0.length l0) (hc0 : l0.length ≤ c0) (h : conf_Channel_51.f l0 = some r) :
  Calls Try.prog 51 #[.slice A0 l0.length c0] w fun e w' => ∃ v0_ : Value, e = .returned (v0_) ∧ Kd.R k44 44 w' w.heap.size (fun _ => True) v0_ r ∧ Below w.heap.size w w' := by
 unfold conf_Channel_51.f at h
 by_cases c1 : l0.length < 4398046511104
 ·rw [if_pos c1] at h
  obtain rfl := Option.some.inj h
  have HR0 := asd hr0
  have HC1 := asd c1
  clear hr0 hc0 h c1
  have hq := fun (w : World) (a : Option Addr) n c => Lib.run_eql_slice_nil (P := Try.prog) w 32 44 a n c 0 0 Try.underlying32
  cases A0 with
  | none =>
   have e0 : l0 = [] := by
    rcases Nat.eq_zero_or_pos l0.length with h0 | h0
    ·exact List.eq_nil_of_length_eq_zero h0
    ·obtain ⟨ad, h, _⟩ := HR0.out.2.2 h0; cases h
   subst e0
   go_enter Try.func51, Try.ntmps51
   go_wp2
   go_ret
   exact ⟨_, rfl, Kd.R_nil _ _ _ _ _, Below.refl _ _⟩
  | some ad =>
   go_enter Try.func51, Try.ntmps51
   go_wp2_with (first | ((with_reducible refine gate_dst (N := 5) rfl ?_); refine Kd.R_lit k44 _ 44 ?hg (N := 5) ?hd (xs := ([] : List (S44))) (inner := []) (ok := fun _ => True) (okp := fun _ => True) ?hr ?hp (fun _ hk => hk) trivial (Below.refl _ _) (Nat.le_refl _) (by simp) ?_; (case hd => rfl); (case hg => rfl); (case hr => first | (go_simp; done) | (go_simp; rfl)); (case hp => exact (Reps.none _ _)); intro v1 w1 ho hb hg hat; have HO := asd ho; have HB := asd hb; clear ho hb hg hat) | ((with_reducible refine gate_builtin (b := .append) (xs := #[.tmp 5, .tmp 6]) rfl ?_); at_builtin; refine Kd.R_append_rows k44 (w0 := w) w.heap.size rfl (.tmp 5) (.tmp 6) 32 44 (.agg #[(.bool false), (.int .i64 0), (.int .i64 0), (.int .i64 0)]) 32 rfl Try.underlying32 conf_Channel_51.info rfl (by decide) (by omega) v1 [] l0 _ _ _ (fun _ => True) (fun _ => False) rfl rfl ?aO ?aR (fun _ _ h => h) (fun _ h => h.elim) ?aF ?aB ?aS ?aL ?_; (case aR => exact Kd.C_below HR0.out HB.out); (case aB => exact HB.out); (case aF => exact (fun _ _ => trivial)); (case aO => exact HO.out); (case aS => exact HB.out.size); (case aL => have := HC1.out; simp only [List.length_nil]; omega); intro v2 w2 ho2 hb2 hg2 hat2; have HO2 := asd ho2; have HB2 := asd hb2; clear ho2 hb2 hg2 hat2))
   go_ret
   exact ⟨_, rfl, HO2.out, HB2.out⟩
 ·rw [if_neg c1] at h; cases h
def conf_Task_52.f (l0 : List (S51)) : Option (List (S51)) := if l0.length < 2932031007402 then some l0 else none
theorem conf_Task_52.info : (Try.prog.info? 51).map (fun i => (i.zero, i.size, i.bytes)) = some (some (.agg #[(.bool false), (.int .i64 0), (.int .i64 0), (.int .i64 0), (.int .i64 0), (.int .i64 0)]), 6, 48) := by kernel_rfl
set_option maxHeartbeats 8000000 in
set_option maxRecDepth 100000 in
theorem conf_Task_52.calls (A0 : Option Addr) (c0 : Nat) (l0 : List (S51)) (r : List (S51)) (w : World) (hr0 : Kd.C k51 w A0 l0.length l0) (hc0 : l0.length ≤ c0) (h : conf_Task_52.f l0 = some r) :
  Calls Try.prog 52 #[.slice A0 l0.length c0] w fun e w' => ∃ v0_ : Value, e = .returned (v0_) ∧ Kd.R k51 51 w' w.heap.size (fun _ => True) v0_ r ∧ Below w.heap.size w w' := by
 unfold conf_Task_52.f at h
 by_cases c1 : l0.length < 2932031007402
 ·rw [if_pos c1] at h
  obtain rfl := Option.some.inj h
  have HR0 := asd hr0
  have HC1 := asd c1
  clear hr0 hc0 h c1
  have hq := fun (w : World) (a : Option Addr) n c => Lib.run_eql_slice_nil (P := Try.prog) w 45 51 a n c 0 0 Try.underlying45
  cases A0 with
  | none =>
   have e0 : l0 = [] := by
    rcases Nat.eq_zero_or_pos l0.length with h0 | h0
    ·exact List.eq_nil_of_length_eq_zero h0
    ·obtain ⟨ad, h, _⟩ := HR0.out.2.2 h0; cases h
   subst e0
   go_enter Try.func52, Try.ntmps52
   go_wp2
   go_ret
   exact ⟨_, rfl, Kd.R_nil _ _ _ _ _, Below.refl _ _⟩
  | some ad =>
   go_enter Try.func52, Try.ntmps52
   go_wp2_with (first | ((with_reducible refine gate_dst (N := 5) rfl ?_); refine Kd.R_lit k51 _ 51 ?hg (N := 5) ?hd (xs := ([] : List (S51))) (inner := []) (ok := fun _ => True) (okp := fun _ => True) ?hr ?hp (fun _ hk => hk) trivial (Below.refl _ _) (Nat.le_refl _) (by simp) ?_; (case hd => rfl); (case hg => rfl); (case hr => first | (go_simp; done) | (go_simp; rfl)); (case hp => exact (Reps.none _ _)); intro v1 w1 ho hb hg hat; have HO := asd ho; have HB := asd hb; clear ho hb hg hat) | ((with_reducible refine gate_builtin (b := .append) (xs := #[.tmp 5, .tmp 6]) rfl ?_); at_builtin; refine Kd.R_append_rows k51 (w0 := w) w.heap.size rfl (.tmp 5) (.tmp 6) 45 51 (.agg #[(.bool false), (.int .i64 0), (.int .i64 0), (.int .i64 0), (.int .i64 0), (.int .i64 0)]) 48 rfl Try.underlying45 conf_Task_52.info rfl (by decide) (by omega) v1 [] l0 _ _ _ (fun _ => True) (fun _ => False) rfl rfl ?aO ?aR (fun _ _ h => h) (fun _ h => h.elim) ?aF ?aB ?aS ?aL ?_; (case aR => exact Kd.C_below HR0.out HB.out); (case aB => exact HB.out); (case aF => exact (fun _ _ => trivial)); (case aO => exact HO.out); (case aS => exact HB.out.size); (case aL => have := HC1.out; simp only [List.length_nil]; omega); intro v2 w2 ho2 hb2 hg2 hat2; have HO2 := asd ho2; have HB2 := asd hb2; clear ho2 hb2 hg2 hat2))
   go_ret
   exact ⟨_, rfl, HO2.out, HB2.out⟩
 ·rw [if_neg c1] at h; cases h
def conf_Server_53.f (l0 : List (S53)) : Option (List (S53)) := if l0.length < 5864062014805 then some l0 else none
theorem conf_Server_53.info : (Try.prog.info? 53).map (fun i => (i.zero, i.size, i.bytes)) = some (some (.agg #[(.bool false), (.int .i64 0), (.int .i64 0)]), 3, 24) := by kernel_rfl
set_option maxHeartbeats 8000000 in
set_option maxRecDepth 100000 in
theorem conf_Server_53.calls (A0 : Option Addr) (c0 : Nat) (l0 : List (S53)) (r : List (S53)) (w : World) (hr0 : Kd.C k53 w A0 l0.length l0) (hc0 : l0.length ≤ c0) (h : conf_Server_53.f l0 = some r) :
  Calls Try.prog 53 #[.slice A0 l0.length c0] w fun e w' => ∃ v0_ : Value, e = .returned (v0_) ∧ Kd.R k53 53 w' w.heap.size (fun _ => True) v0_ r ∧ Below w.heap.size w w' := by
 unfold conf_Server_53.f at h
 by_cases c1 : l0.length < 5864062014805
 ·rw [if_pos c1] at h
  obtain rfl := Option.some.inj h
  have HR0 := asd hr0
  have HC1 := asd c1
  clear hr0 hc0 h c1
  have hq := fun (w : World) (a : Option Addr) n c => Lib.run_eql_slice_nil (P := Try.prog) w 46 53 a n c 0 0 Try.underlying46
  cases A0 with
  | none =>
   have e0 : l0 = [] := by
    rcases Nat.eq_zero_or_pos l0.length with h0 | h0
    ·exact List.eq_nil_of_length_eq_zero h0
    ·obtain ⟨ad, h, _⟩ := HR0.out.2.2 h0; cases h
   subst e0
   go_enter Try.func53, Try.ntmps53
   go_wp2
   go_ret
   exact ⟨_, rfl, Kd.R_nil _ _ _ _ _, Below.refl _ _⟩
  | some ad =>
   go_enter Try.func53, Try.ntmps53
   go_wp2_with (first | ((with_reducible refine gate_dst (N := 5) rfl ?_); refine Kd.R_lit k53 _ 53 ?hg (N := 5) ?hd (xs := ([] : List (S53))) (inner := []) (ok := fun _ => True) (okp := fun _ => True) ?hr ?hp (fun _ hk => hk) trivial (Below.refl _ _) (Nat.le_refl _) (by simp) ?_; (case hd => rfl); (case hg => rfl); (case hr => first | (go_simp; done) | (go_simp; rfl)); (case hp => exact (Reps.none _ _)); intro v1 w1 ho hb hg hat; have HO := asd ho; have HB := asd hb; clear ho hb hg hat) | ((with_reducible refine gate_builtin (b := .append) (xs := #[.tmp 5, .tmp 6]) rfl ?_); at_builtin; refine Kd.R_append_rows k53 (w0 := w) w.heap.size rfl (.tmp 5) (.tmp 6) 46 53 (.agg #[(.bool false), (.int .i64 0), (.int .i64 0)]) 24 rfl Try.underlying46 conf_Server_53.info rfl (by decide) (by omega) v1 [] l0 _ _ _ (fun _ => True) (fun _ => False) rfl rfl ?aO ?aR (fun _ _ h => h) (fun _ h => h.elim) ?aF ?aB ?aS ?aL ?_; (case aR => exact Kd.C_below HR0.out HB.out); (case aB => exact HB.out); (case aF => exact (fun _ _ => trivial)); (case aO => exact HO.out); (case aS => exact HB.out.size); (case aL => have := HC1.out; simp only [List.length_nil]; omega); intro v2 w2 ho2 hb2 hg2 hat2; have HO2 := asd ho2; have HB2 := asd hb2; clear ho2 hb2 hg2 hat2))
   go_ret
   exact ⟨_, rfl, HO2.out, HB2.out⟩
 ·rw [if_neg c1] at h; cases h
def slices_Clone_int_int.f (l0 : List Int) : Option (List Int) := if l0.length < 17592186044416 then some l0 else none
theorem slices_Clone_int_int.info : (Try.prog.info? 3).map (fun i => (i.zero, i.size, i.bytes)) = some (some (.int .i64 0), 1, 8) := by kernel_rfl
set_option maxHeartbeats 8000000 in
set_option maxRecDepth 100000 in
theorem slices_Clone_int_int.calls (A0 : Option Addr) (c0 : Nat) (l0 : List Int) (r : List Int) (w : World) (hr0 : Kd.C (Kd.int .i64) w A0 l0.length l0) (hc0 : l0.length ≤ c0) (h : slices_Clone_int_int.f l0 = some r) :
  Calls Try.prog 54 #[.slice A0 l0.length c0] w fun e w' => ∃ v0_ : Value, e = .returned (v0_) ∧ Kd.R (Kd.int .i64) 3 w' w.heap.size (fun _ => True) v0_ r ∧ Below w.heap.size w w' := by
 unfold slices_Clone_int_int.f at h
 by_cases c1 : l0.length < 17592186044416
 ·rw [if_pos c1] at h
  obtain rfl := Option.some.inj h
  have HR0 := asd hr0
  have HC1 := asd c1
  clear hr0 hc0 h c1
  have hq := fun (w : World) (a : Option Addr) n c => Lib.run_eql_slice_nil (P := Try.prog) w 27 3 a n c 0 0 Try.underlying27
  cases A0 with
  | none =>
   have e0 : l0 = [] := by
    rcases Nat.eq_zero_or_pos l0.length with h0 | h0
    ·exact List.eq_nil_of_length_eq_zero h0
    ·obtain ⟨ad, h, _⟩ := HR0.out.2.2 h0; cases h
   subst e0
   go_enter Try.func54, Try.ntmps54
   go_wp2
   go_ret
   exact ⟨_, rfl, Kd.R_nil _ _ _ _ _, Below.refl _ _⟩
  | some ad =>
   go_enter Try.func54, Try.ntmps54
   go_wp2_with (first | ((with_reducible refine gate_dst (N := 5) rfl ?_); refine Kd.R_lit (Kd.int .i64) _ 3 ?hg (N := 5) ?hd (xs := ([] : List Int)) (inner := []) (ok := fun _ => True) (okp := fun _ => True) ?hr ?hp (fun _ hk => hk) trivial (Below.refl _ _) (Nat.le_refl _) (by simp) ?_; (case hd => rfl); (case hg => rfl); (case hr => first | (go_simp; done) | (go_simp; rfl)); (case hp => exact (Reps.none _ _)); intro v1 w1 ho hb hg hat; have HO := asd ho; have HB := asd hb; clear ho hb hg hat) | ((with_reducible refine gate_builtin (b := .append) (xs := #[.tmp 5, .tmp 6]) rfl ?_); at_builtin; refine Kd.R_append_rows (Kd.int .i64) (w0 := w) w.heap.size rfl (.tmp 5) (.tmp 6) 27 3 (.int .i64 0) 8 rfl Try.underlying27 slices_Clone_int_int.info rfl (by decide) (by omega) v1 [] l0 _ _ _ (fun _ => True) (fun _ => False) rfl rfl ?aO ?aR (fun _ _ h => h) (fun _ h => h.elim) ?aF ?aB ?aS ?aL ?_; (case aR => exact Kd.C_below HR0.out HB.out); (case aB => exact HB.out); (case aF => exact (fun _ _ => trivial)); (case aO => exact HO.out); (case aS => exact HB.out.size); (case aL => have := HC1.out; simp only [List.length_nil]; omega); intro v2 w2 ho2 hb2 hg2 hat2; have HO2 := asd ho2; have HB2 := asd hb2; clear ho2 hb2 hg2 hat2))
   go_ret
   exact ⟨_, rfl, HO2.out, HB2.out⟩
 ·rw [if_neg c1] at h; cases h
def slices_Clone_byte_byte.f (l0 : List Int) : Option (List Int) := if l0.length < 140737488355328 then some l0 else none
end Go.Proofs.Ytmjhnmdmopmfjaa.Fn
