/- Part of the proof of ConfApart: see the last text. (Words laid by the print, as far as they are named here; walks written by a program of this project; plain laws.) -/
import Derived.Test.YtmjhnmdmopmfjaaConfApartZ2
namespace Go.Proofs.Ytmjhnmdmopmfjaa.Fn
open Go.RowKit Go.Proofs.YtmjhnmdmopmfjaaW.PrintWords Go.Proofs.YtmjhnmdmopmfjaaW.PrintLast Go.Proofs.YtmjhnmdmopmfjaaW.PrintMore
attribute [local go_sem] max2_int min2_int max_two min_two max_three min_three max_four min_four
set_option linter.unusedVariables false
set_option linter.unusedSimpArgs false
def conf_Clone.l0 : Nat → List (S49) → List (S49) → Int → Int → Int → Int → List (S42) → List (S49) → List (S44) → Option (Int × Int × (List (S42)) × (List (S49)) × (List (S44)))
 | 0, _, _, _, _, _, _, _, _, _ => none
 | k + 1, x3, x15, x16, x17, x204000, x204001, x204002, x204003, x204004 => if x17 < x16 then (if 0 ≤ x17 then (if x17 < (x15.length : Int) then ((conf_Task_52.f ((rd_T49 x15 x17).f0)).bind fun t213 => ((conf_Server_53.f ((rd_T49 x15 x17).f1)).bind fun t216 => ((slices_Clone_int_int.f ((rd_T49 x15 x17).f2)).bind fun t219 => (if x3.length < 1759218604441 then (conf_Clone.l0 k (x3 ++ [(⟨t213, t216, t219, (⟨(rd_T49 x15 x17).f3.f0, (rd_T49 x15 x17).f3.f1, (rd_T49 x15 x17).f3.f2⟩ : S47)⟩ : S49)]) x15 x16 (wrap64 (x17 + 1)) x204000 x204001 x204002 x204003 x204004) else (none))))) else (none)) else (none)) else (some (x204000, x204001, x204002, x3, x204004))
def conf_Clone.f (k : Nat) (a0_0 : Int) (a0_1 : Int) (l0_2 : List (S42)) (l0_3 : List (S49)) (l0_4 : List (S44)) : Option (Int × Int × (List (S42)) × (List (S49)) × (List (S44))) := (conf_Window_50.f l0_2).bind fun t205 => ((conf_Channel_51.f l0_4).bind fun t208 => (conf_Clone.l0 k ([] : List (S49)) l0_3 (l0_3.length : Int) 0 a0_0 a0_1 t205 l0_3 t208))
def conf_Clone.T1 : Bool × List (List Nat × List Nat) := (true, [([], []), ([0], [0]), ([1], [1]), ([], []), ([3], [3]), ([4, 2], [4]), ([0, 1, 2, 3, 4], []), ([6, 2, 5, 0, 1, 2, 3, 4], [2, 6]), ([0, 1, 2, 3, 4, 5, 6, 7], []), ([8, 5, 7, 0, 1, 2, 3, 4, 5, 6, 7], [5, 8])])
def conf_Clone.B1 : List Nat := [0, 1, 3, 0, 8, 31, 31, 127, 255, 511]
theorem conf_Clone.tab1 : rtab .any (opsOf Try.f22 1) = conf_Clone.T1 := by kernel_rfl
theorem conf_Clone.bits1 : waitsOk conf_Clone.T1.2 conf_Clone.B1 = true := by kernel_rfl
def conf_Clone.T6 : Bool × List (List Nat × List Nat) := (true, [([], []), ([], []), ([1], [1]), ([2], [2]), ([], []), ([4], [4]), ([5, 3], [5]), ([], []), ([7], [7]), ([8, 6], [8]), ([], []), ([10], [10]), ([3, 6, 9, 11], [3, 6, 9, 11]), ([12], [12]), ([0, 13, 9], [0, 13]), ([14, 14, 0, 1, 2, 3, 4, 5, 6, 7, 8, 9, 10, 11, 12, 13, 14], [0, 14])])
def conf_Clone.B6 : List Nat := [0, 0, 2, 6, 0, 16, 62, 0, 128, 510, 0, 1024, 4094, 8190, 16383, 32767]
theorem conf_Clone.tab6 : rtab .any (opsOf Try.f22 6) = conf_Clone.T6 := by kernel_rfl
theorem conf_Clone.bits6 : waitsOk conf_Clone.T6.2 conf_Clone.B6 = true := by kernel_rfl
set_option maxHeartbeats 8000000 in
set_option maxRecDepth 100000 in
theorem conf_Clone.calls (k : Nat) (a0_0 : Int) (a0_1 : Int) (A0_2 : Option Addr) (c0_2 : Nat) (l0_2 : List (S42)) (A0_3 : Option Addr) (c0_3 : Nat) (l0_3 : List (S49)) (A0_4 : Option Addr) (c0_4 : Nat) (l0_4 : List (S44)) (r1 : Int) (r2 : Int) (r3 : List (S42)) (r4 : List (S49)) (r5 : List (S44)) (w : World) (hr0_2 : Kd.C k42 w A0_2 l0_2.length l0_2) (hc0_2 : l0_2.length ≤ c0_2) (hr0_3 : Kd.C k49 w A0_3 l0_3.length l0_3) (hc0_3 : l0_3.length ≤ c0_3) (hr0_4 : Kd.C k44 w A0_4 l0_4.length l0_4) (hc0_4 : l0_4.length ≤ c0_4) (h : conf_Clone.f k a0_0 a0_1 l0_2 l0_3 l0_4 = some (r1, r2, r3, r4, r5)) :
  Calls Try.prog 22 #[.agg #[.int .i64 a0_0, .int .i64 a0_1, .slice A0_2 l0_2.length c0_2, .slice A0_3 l0_3.length c0_3, .slice A0_4 l0_4.length c0_4]] w fun e w' => ∃ v2_ v3_ v4_ : Value, e = .returned (.agg #[.int .i64 r1, .int .i64 r2, v2_, v3_, v4_]) ∧ Kd.R k42 42 w' w.heap.size (fun _ => True) v2_ r3 ∧ Kd.S k49 49 w' w.heap.size (fun _ => True) v3_ r4 ∧ Kd.R k44 44 w' w.heap.size (fun _ => True) v4_ r5 ∧ Below w.heap.size w w' := by
 have hu34 := Try.underlying34
 have hu49 := Try.underlying49
 have hu47 := Try.underlying47
 have HR0_2 := asd hr0_2
 have HC0_2 := asd hc0_2
 clear hr0_2 hc0_2
 have HR0_3 := asd hr0_3
 have HC0_3 := asd hc0_3
 clear hr0_3 hc0_3
 have HR0_4 := asd hr0_4
 have HC0_4 := asd hc0_4
 clear hr0_4 hc0_4
 have HB := asd (Below.refl w.heap.size w)
 have H : ((conf_Window_50.f l0_2).bind fun t205 => ((conf_Channel_51.f l0_4).bind fun t208 => (conf_Clone.l0 k ([] : List (S49)) l0_3 (l0_3.length : Int) 0 a0_0 a0_1 t205 l0_3 t208))) = some (r1, r2, r3, r4, r5) := h
 clear h
 replace H := Option.bind_eq_some_iff.mp H
 obtain ⟨t205, A20, H⟩ := H
 replace H : ((conf_Channel_51.f l0_4).bind fun t208 => (conf_Clone.l0 k ([] : List (S49)) l0_3 (l0_3.length : Int) 0 a0_0 a0_1 t205 l0_3 t208)) = some (r1, r2, r3, r4, r5) := H
 have A2 := asd A20
 clear A20
 replace H := Option.bind_eq_some_iff.mp H
 obtain ⟨t208, A30, H⟩ := H
 replace H : (conf_Clone.l0 k ([] : List (S49)) l0_3 (l0_3.length : Int) 0 a0_0 a0_1 t205 l0_3 t208) = some (r1, r2, r3, r4, r5) := H
 have A3 := asd A30
 clear A30
 have H' := asd H
 clear H
 go_enter Try.func22, Try.ntmps22
 try go_wp2_with (first | ((with_reducible refine gate_dst (N := 1) rfl ?_); refine box_event ?hg (N := 1) ?hd (cs := #[.int .i64 a0_0, .int .i64 a0_1, .slice A0_2 l0_2.length c0_2, .slice A0_3 l0_3.length c0_3, .slice A0_4 l0_4.length c0_4]) (t := 34) ?hr ?_; (case hd => rfl); (case hg => rfl); (case hr => first | (go_simp; done) | (go_simp; rfl)); intro gb203 hg w4 hbox hb; have n0_ := asd (below_step (by repeat (first | (with_reducible first | exact HB.out | apply wa | apply wn | apply wd) | exact HB.out)) hb); have n1_ := asd (hbox); have n2_ := asd ((by rw [hg]; exact (below_size (by repeat (first | (with_reducible first | exact HB.out | apply wa | apply wn | apply wd) | exact HB.out))) : w.heap.size ≤ gb203)); have n3_ := asd ((by rw [hg]; exact (below_size (by repeat (first | (with_reducible first | exact HB.out | apply wa | apply wn | apply wd) | exact HB.out))) : w.heap.size ≤ gb203)); clear HB; have HB := n0_; have BK203 := n1_; have GW203 := n2_; have GE203 := n3_; clear n0_ n1_ n2_ n3_; clear hb hbox hg) | ((with_reducible refine gate_dst (N := 2) rfl ?_); refine box_event ?hg (N := 2) ?hd (cs := #[.int .i64 0, .int .i64 0, .slice none 0 0, .slice none 0 0, .slice none 0 0]) (t := 34) ?hr ?_; (case hd => rfl); (case hg => rfl); (case hr => first | (go_simp; done) | (go_simp; rfl)); intro gb204 hg w5 hbox hb; have n0_ := asd (blk_below (g := gb203) (o := .cells #[.int .i64 a0_0, .int .i64 a0_1, .slice A0_2 l0_2.length c0_2, .slice A0_3 l0_3.length c0_3, .slice A0_4 l0_4.length c0_4] 34 (0, 0)) (by (with_reducible repeat first | apply bn | apply bd | apply ba); exact BK203.out) hb); have n1_ := asd (below_step (by repeat (first | (with_reducible first | exact HB.out | apply wa | apply wn | apply wd | refine ws ?_ GE203.out) | exact HB.out)) hb); have n2_ := asd (hbox); have n3_ := asd ((by rw [hg]; exact (below_size (by repeat (first | (with_reducible first | exact HB.out | apply wa | apply wn | apply wd | refine ws ?_ GE203.out) | exact HB.out))) : w.heap.size ≤ gb204)); have n4_ := asd ((by rw [hg]; exact (below_size (by repeat (first | (with_reducible first | exact HB.out | apply wa | apply wn | apply wd | refine ws ?_ GE203.out) | exact HB.out))) : w.heap.size ≤ gb204)); have n5_ := asd ((by rw [hg]; exact Nat.ne_of_lt (blk_lt (g := gb203) (o := .cells #[.int .i64 a0_0, .int .i64 a0_1, .slice A0_2 l0_2.length c0_2, .slice A0_3 l0_3.length c0_3, .slice A0_4 l0_4.length c0_4] 34 (0, 0)) (by (with_reducible repeat first | apply bn | apply bd | apply ba); exact BK203.out)) : gb203 ≠ gb204)); have n6_ := asd ((by rw [hg]; exact Nat.ne_of_gt (blk_lt (g := gb203) (o := .cells #[.int .i64 a0_0, .int .i64 a0_1, .slice A0_2 l0_2.length c0_2, .slice A0_3 l0_3.length c0_3, .slice A0_4 l0_4.length c0_4] 34 (0, 0)) (by (with_reducible repeat first | apply bn | apply bd | apply ba); exact BK203.out)) : gb204 ≠ gb203)); clear BK203; clear HB; have BK203 := n0_; have HB := n1_; have BK204 := n2_; have GW204 := n3_; have GE204 := n4_; have NB203_204 := n5_; have NB204_203 := n6_; clear n0_ n1_ n2_ n3_ n4_ n5_ n6_; clear hb hbox hg))
 have n0_ := asd (blk_drew BK203.out)
 have n1_ := asd (blk_drew BK204.out)
 have n2_ := asd (below_drew1 HB.out)
 clear BK203
 clear BK204
 clear HB
 have BK203 := n0_
 have BK204 := n1_
 have HB := n2_
 clear n0_ n1_ n2_
 refine start_ (n := 10) (S := fun w' => w'.cell? ⟨gb203, 0, none⟩ = some (.int .i64 a0_0) ∧ w'.cell? ⟨gb203, 1, none⟩ = some (.int .i64 a0_1) ∧ w'.cell? ⟨gb203, 2, none⟩ = some (.slice A0_2 l0_2.length c0_2) ∧ w'.cell? ⟨gb203, 3, none⟩ = some (.slice A0_3 l0_3.length c0_3) ∧ w'.cell? ⟨gb203, 4, none⟩ = some (.slice A0_4 l0_4.length c0_4)) (ds := [7, 9]) #[false, false, false, false, false, false, false, false, false, false] (by kernel_rfl) rfl rfl ⟨(blk_cell BK203.out 0).trans rfl, (blk_cell BK203.out 1).trans rfl, (blk_cell BK203.out 2).trans rfl, (blk_cell BK203.out 3).trans rfl, (blk_cell BK203.out 4).trans rfl⟩ (fun hHeld => ?_); refine with_tabW conf_Clone.tab1 conf_Clone.bits1 (fun HT_ HW_ => ?_)
 generalize w5.drew = w6 at BK203 BK204 HB hHeld ⊢
 refine pure_ (i := 0) (N := some 6) (v := ?_) (a' := ?_) #[true, false, false, false, false, false, false, false, false, false] rfl rfl (any_of HT_.out (by kernel_rfl)) (fun _ _ _ h => h) (Or.inl ⟨by rfl, ?_⟩) ?_ ?_
 rotate_left
 ·intro w'
  go_simp
  with_reducible rfl
 rotate_left
 ·simp only [Act.put, sB, i64_w, i32_w]
  rfl
 refine pure_ (i := 3) (N := some 9) (v := ?_) (a' := ?_) #[true, false, false, true, false, false, false, false, false, false] rfl rfl (any_of HT_.out (by kernel_rfl)) (fun _ _ _ h => h) (Or.inl ⟨by rfl, ?_⟩) ?_ ?_
 rotate_left
 ·intro w'
  go_simp
  with_reducible rfl
 rotate_left
 ·simp only [Act.put, sB, i64_w, i32_w]
  rfl
 refine take_ (i := 1) (N := some 7) (v := ?_) (a' := ?_) #[true, true, false, true, false, false, false, false, false, false] rfl rfl (take_ofW HT_.out HW_.out (by kernel_rfl)) (fun _ _ _ h => h) (Or.inl ⟨by rfl, ?_⟩) hHeld ?_ ?_
 rotate_left
 ·rintro w' ⟨s0, s1, s2, s3, s4⟩
  go_simp
  with_reducible rfl
 rotate_left
 ·simp only [Act.put, sB, i64_w, i32_w]
  rfl
 refine take_ (i := 4) (N := some 10) (v := ?_) (a' := ?_) #[true, true, false, true, true, false, false, false, false, false] rfl rfl (take_ofW HT_.out HW_.out (by kernel_rfl)) (fun _ _ _ h => h) (Or.inl ⟨by rfl, ?_⟩) hHeld ?_ ?_
 rotate_left
 ·rintro w' ⟨s0, s1, s2, s3, s4⟩
  go_simp
  with_reducible rfl
 rotate_left
 ·simp only [Act.put, sB, i64_w, i32_w]
  rfl
 refine one_ (i := 2) (N := some 8) #[true, true, true, true, true, false, false, false, false, false] rfl rfl (one_of HT_.out (by kernel_rfl)) (by decide) (fun K hK => ?_)
 refine goes_ Try.func50 (by kernel_rfl) rfl #[.slice A0_2 l0_2.length c0_2] (by rfl) rfl rfl (by (try simp only [List.map_toArray, List.map_cons, List.map_nil]); first | done | rfl | (simp only [List.length_drop, List.length_take]; rfl)) ?_
 with_reducible refine (conf_Window_50.calls _ _ l0_2 t205 _ ?side1 ?side2 A2.out).mono ?_
 (case side1 => repeat (first | exact (Kd.C_below HR0_2.out HB.out) | (with_reducible refine Kd.C_alloc ?_ _) | (with_reducible refine Kd.C_drewN ?_ _) | (with_reducible refine Kd.C_drew ?_)))
 (case side2 => exact HC0_2.out)
 rintro e w7 ⟨v206, rfl, ho0, hb⟩
 refine ⟨_, rfl, ?_⟩
 have n0_ := asd (Kd.R_lower ho0 (below_size (by repeat (first | (with_reducible first | exact HB.out | apply wa | apply wn | apply wd | refine ws ?_ GE203.out | refine ws ?_ GE204.out) | exact HB.out))))
 have n1_ := asd (blk_below (g := gb203) (o := .cells #[.int .i64 a0_0, .int .i64 a0_1, .slice A0_2 l0_2.length c0_2, .slice A0_3 l0_3.length c0_3, .slice A0_4 l0_4.length c0_4] 34 (0, 0)) (by (with_reducible repeat first | apply bn | apply bd | apply ba); exact BK203.out) hb)
 have n2_ := asd (blk_below (g := gb204) (o := .cells #[.int .i64 0, .int .i64 0, .slice none 0 0, .slice none 0 0, .slice none 0 0] 34 (0, 0)) (by (with_reducible repeat first | apply bn | apply bd | apply ba); exact BK204.out) hb)
 have n3_ := asd (below_step (by repeat (first | (with_reducible first | exact HB.out | apply wa | apply wn | apply wd | refine ws ?_ GE203.out | refine ws ?_ GE204.out) | exact HB.out)) hb)
 clear BK203
 clear BK204
 clear HB
 have HO207 := n0_
 have BK203 := n1_
 have BK204 := n2_
 have HB := n3_
 clear n0_ n1_ n2_ n3_
 (try clear hb)
 (try clear hb2)
 (try clear hk)
 (try clear hi)
 (try clear ho0)
 refine hK.out _ _ ⟨(blk_cell BK203.out 0).trans rfl, (blk_cell BK203.out 1).trans rfl, (blk_cell BK203.out 2).trans rfl, (blk_cell BK203.out 3).trans rfl, (blk_cell BK203.out 4).trans rfl⟩ (fun hHeld => ?_)
 clear hK K
 refine norm_ (a' := ?_) ?_ ?_
 rotate_left
 ·show Act.put _ (some 8) _ = _
  simp only [Act.put, sB, i64_w, i32_w]
  rfl
 refine pure_ (i := 6) (N := some 12) (v := ?_) (a' := ?_) #[true, true, true, true, true, false, true, false, false, false] rfl rfl (any_of HT_.out (by kernel_rfl)) (fun _ _ _ h => h) (Or.inl ⟨by rfl, ?_⟩) ?_ ?_
 rotate_left
 ·intro w'
  go_simp
  with_reducible rfl
 rotate_left
 ·simp only [Act.put, sB, i64_w, i32_w]
  rfl
 refine one_ (i := 5) (N := some 11) #[true, true, true, true, true, true, true, false, false, false] rfl rfl (one_of HT_.out (by kernel_rfl)) (by decide) (fun K hK => ?_)
 refine goes_ Try.func51 (by kernel_rfl) rfl #[.slice A0_4 l0_4.length c0_4] (by rfl) rfl rfl (by (try simp only [List.map_toArray, List.map_cons, List.map_nil]); first | done | rfl | (simp only [List.length_drop, List.length_take]; rfl)) ?_
 with_reducible refine (conf_Channel_51.calls _ _ l0_4 t208 _ ?side1 ?side2 A3.out).mono ?_
 (case side1 => repeat (first | exact (Kd.C_below HR0_4.out HB.out) | (with_reducible refine Kd.C_alloc ?_ _) | (with_reducible refine Kd.C_drewN ?_ _) | (with_reducible refine Kd.C_drew ?_)))
 (case side2 => exact HC0_4.out)
 rintro e w8 ⟨v209, rfl, ho0, hb⟩
 refine ⟨_, rfl, ?_⟩
 have n0_ := asd (Kd.R_below (by (with_reducible repeat (first | apply Kd.R_alloc | apply Kd.R_drewN | apply Kd.R_drew)); exact HO207.out) hb)
 have n1_ := asd (Kd.R_lower ho0 (below_size (by repeat (first | (with_reducible first | exact HB.out | apply wa | apply wn | apply wd | refine ws ?_ GE203.out | refine ws ?_ GE204.out) | exact HB.out))))
 have n2_ := asd (blk_below (g := gb203) (o := .cells #[.int .i64 a0_0, .int .i64 a0_1, .slice A0_2 l0_2.length c0_2, .slice A0_3 l0_3.length c0_3, .slice A0_4 l0_4.length c0_4] 34 (0, 0)) (by (with_reducible repeat first | apply bn | apply bd | apply ba); exact BK203.out) hb)
 have n3_ := asd (blk_below (g := gb204) (o := .cells #[.int .i64 0, .int .i64 0, .slice none 0 0, .slice none 0 0, .slice none 0 0] 34 (0, 0)) (by (with_reducible repeat first | apply bn | apply bd | apply ba); exact BK204.out) hb)
 have n4_ := asd (below_step (by repeat (first | (with_reducible first | exact HB.out | apply wa | apply wn | apply wd | refine ws ?_ GE203.out | refine ws ?_ GE204.out) | exact HB.out)) hb)
 clear HO207
 clear BK203
 clear BK204
 clear HB
 have HO207 := n0_
 have HO210 := n1_
 have BK203 := n2_
 have BK204 := n3_
 have HB := n4_
 clear n0_ n1_ n2_ n3_ n4_
 (try clear hb)
 (try clear hb2)
 (try clear hk)
 (try clear hi)
 (try clear ho0)
 obtain ⟨Ao9, co9, eo9⟩ := Kd.R_slice HO207.out
 (first | subst eo9 | (injection eo9 with f1_ f2_ f3_; have f4_ := f1_.symm; have f5_ := f3_.symm; clear f1_ f2_ f3_; subst f4_; subst f5_))
 obtain ⟨Ao11, co11, eo11⟩ := Kd.R_slice HO210.out
 (first | subst eo11 | (injection eo11 with f1_ f2_ f3_; have f4_ := f1_.symm; have f5_ := f3_.symm; clear f1_ f2_ f3_; subst f4_; subst f5_))
 refine hK.out _ _ ⟨(blk_cell BK203.out 0).trans rfl, (blk_cell BK203.out 1).trans rfl, (blk_cell BK203.out 2).trans rfl, (blk_cell BK203.out 3).trans rfl, (blk_cell BK203.out 4).trans rfl⟩ (fun hHeld => ?_)
 clear hK K
 refine norm_ (a' := ?_) ?_ ?_
 rotate_left
 ·show Act.put _ (some 11) _ = _
  simp only [Act.put, sB, i64_w, i32_w]
  rfl
 refine last_ (i := 7) (N := none) #[true, true, true, true, true, true, true, true, false, false] rfl rfl (one_of HT_.out (by kernel_rfl)) (by decide) (fun K hK => ?_)
 have hs10 : w8.cell? ⟨gb203, 2, none⟩ = some (.slice A0_2 l0_2.length c0_2) := (blk_cell BK203.out 2).trans rfl
 have hfs10 := blk_frozen BK203.out 2
 have hns10_1 := NB204_203.out
 have hms10_1 := NB203_204.out
 refine skip_ (w1 := ?_) (by rfl) rfl ?_ ?_
 rotate_left
 ·go_simp
  rfl
 refine hK.out _ _ ?_
 clear hK K
 refine pure_ (i := 8) (N := some 13) (v := ?_) (a' := ?_) #[true, true, true, true, true, true, true, true, true, false] rfl rfl (any_of HT_.out (by kernel_rfl)) (fun _ _ _ h => h) (Or.inl ⟨by rfl, ?_⟩) ?_ ?_
 rotate_left
 ·intro w'
  go_simp
  with_reducible rfl
 rotate_left
 ·simp only [Act.put, sB, i64_w, i32_w]
  rfl
 refine last_ (i := 9) (N := none) #[true, true, true, true, true, true, true, true, true, true] rfl rfl (one_of HT_.out (by kernel_rfl)) (by decide) (fun K hK => ?_)
 have hs12 : w8.cell? ⟨gb203, 4, none⟩ = some (.slice A0_4 l0_4.length c0_4) := (blk_cell BK203.out 4).trans rfl
 have hfs12 := blk_frozen BK203.out 4
 have hns12_1 := NB204_203.out
 have hms12_1 := NB203_204.out
 refine skip_ (w1 := ?_) (by rfl) rfl ?_ ?_
 rotate_left
 ·go_simp
  rfl
 refine hK.out _ _ ?_
 clear hK K
 refine done_ (done_of HT_.out (by kernel_rfl)) ?_
 have hnb13 := NB203_204.out
 have hnc13 := NB204_203.out
 have hcz14_0 : w8.cell? ⟨gb203, 0, none⟩ = some (.int .i64 a0_0) := (blk_cell BK203.out 0).trans rfl
 have hcz14_1 : w8.cell? ⟨gb203, 1, none⟩ = some (.int .i64 a0_1) := (blk_cell BK203.out 1).trans rfl
 have hcz14_2 : w8.cell? ⟨gb203, 2, none⟩ = some (.slice A0_2 l0_2.length c0_2) := (blk_cell BK203.out 2).trans rfl
 have hcz14_3 : w8.cell? ⟨gb203, 3, none⟩ = some (.slice A0_3 l0_3.length c0_3) := (blk_cell BK203.out 3).trans rfl
 have hcz14_4 : w8.cell? ⟨gb203, 4, none⟩ = some (.slice A0_4 l0_4.length c0_4) := (blk_cell BK203.out 4).trans rfl
 have hfz14_0 := blk_frozen BK203.out 0
 have hfz14_1 := blk_frozen BK203.out 1
 have hfz14_2 := blk_frozen BK203.out 2
 have hfz14_3 := blk_frozen BK203.out 3
 have hfz14_4 := blk_frozen BK203.out 4
 try go_wp2
 go_loopg [3, 17] k (fun kq v3 v17 w' => ∃ (x3_1 : List (S49)) (x17_1 : Int), v17 = .int .i64 x17_1 ∧ Aside0 (conf_Clone.l0 kq x3_1 l0_3 (l0_3.length : Int) x17_1 a0_0 a0_1 t205 l0_3 t208 = some (r1, r2, r3, r4, r5)) ∧ Aside0 (kq ≤ k) ∧ Aside0 (Kd.S k49 49 w' w.heap.size (fun _ => True) v3 x3_1) ∧ Aside0 (Kd.R k42 42 w' w.heap.size (fun _ => True) (.slice Ao9 t205.length co9) t205) ∧ Aside0 (Kd.R k44 44 w' w.heap.size (fun _ => True) (.slice Ao11 t208.length co11) t208) ∧ Aside0 (w'.heap[gb203]? = some (.cells #[.int .i64 a0_0, .int .i64 a0_1, (.slice Ao9 t205.length co9), (.slice A0_3 l0_3.length c0_3), (.slice Ao11 t208.length co11)] 34 (0, 0))) ∧ Aside0 (w'.heap[gb204]? = some (.cells #[.int .i64 0, .int .i64 0, (.slice none 0 0), (.slice none 0 0), (.slice none 0 0)] 34 (0, 0))) ∧ Aside0 (Below w.heap.size w w'))
 case atStart => exact ⟨(([] : List (S49))), (0), (by first | rfl | (simp; done) | (simp [*]; done)), H', ⟨Nat.le_refl _⟩, ⟨by first | exact Kd.S_nil _ _ _ _ _ | exact Kd.N_nil _ _ _ _ _ | exact Kd.V_nil _ _ _ _ _ | exact Kd.Q_nil _ _ _ _ _ | exact Kd.R_nil _ _ _ _ _⟩, ⟨by (with_reducible repeat (first | apply Kd.R_alloc | apply Kd.R_drewN | apply Kd.R_drew)); exact Kd.R_mono (Kd.R_far (p := ⟨gb203, 4, none⟩) (Kd.R_far (p := ⟨gb203, 2, none⟩) (Kd.R_types HO207.out BK203.out (by decide)) (fun _ hk => hk.2) (.slice Ao9 t205.length co9)) (fun _ hk => hk.2) (.slice Ao11 t208.length co11)) (fun _ hk => trivial)⟩, ⟨by (with_reducible repeat (first | apply Kd.R_alloc | apply Kd.R_drewN | apply Kd.R_drew)); exact Kd.R_mono (Kd.R_far (p := ⟨gb203, 4, none⟩) (Kd.R_far (p := ⟨gb203, 2, none⟩) (Kd.R_types HO210.out BK203.out (by decide)) (fun _ hk => hk.2) (.slice Ao9 t205.length co9)) (fun _ hk => hk.2) (.slice Ao11 t208.length co11)) (fun _ hk => trivial)⟩, ⟨by (with_reducible repeat first | apply bn | apply bd | apply ba); refine blk_put (cs := #[.int .i64 a0_0, .int .i64 a0_1, .slice Ao9 t205.length co9, .slice A0_3 l0_3.length c0_3, .slice A0_4 l0_4.length c0_4]) ?_ 4 _ rfl; (with_reducible repeat first | apply bn | apply bd | apply ba); refine blk_put (cs := #[.int .i64 a0_0, .int .i64 a0_1, .slice A0_2 l0_2.length c0_2, .slice A0_3 l0_3.length c0_3, .slice A0_4 l0_4.length c0_4]) ?_ 2 _ rfl; (with_reducible repeat first | apply bn | apply bd | apply ba); exact BK203.out⟩, ⟨by (with_reducible repeat first | apply bn | apply bd | apply ba); refine blk_far ?_ NB204_203.out _; (with_reducible repeat first | apply bn | apply bd | apply ba); refine blk_far ?_ NB204_203.out _; (with_reducible repeat first | apply bn | apply bd | apply ba); exact BK204.out⟩, ⟨by repeat (first | (with_reducible first | exact HB.out | apply wa | apply wn | apply wd | refine ws ?_ GE203.out | refine ws ?_ GE204.out) | exact HB.out)⟩⟩
 case round =>
  clear H'
  try clear c1
  try clear c2
  try clear p2
  try clear c5
  try clear c13
  try clear hcz14_0
  try clear hcz14_1
  try clear hcz14_2
  try clear hcz14_3
  try clear hcz14_4
  try clear hfz14_0
  try clear hfz14_1
  try clear hfz14_2
  try clear hfz14_3
  try clear hfz14_4
  obtain ⟨x3_1, x17_1, rfl, HA, HK1, HO_3, HO_204002, HO_204004, BK203, BK204, HB⟩ := hrel
  cases gk with
  | zero => exact absurd HA.out (by simp [conf_Clone.l0])
  | succ k1 =>
   have H := HA.out
   clear HA
   simp only [conf_Clone.l0] at H
   by_cases c15 : x17_1 < (l0_3.length : Int)
   ·rw [if_pos c15] at H
    have c15b0 : decide (x17_1 < (l0_3.length : Int)) = true := decide_eq_true c15
    clear c15
    by_cases c16 : 0 ≤ x17_1
    ·rw [if_pos c16] at H
     have c16b0 : decide (0 ≤ x17_1) = true := decide_eq_true c16
     clear c16
     by_cases c17 : x17_1 < (l0_3.length : Int)
     ·rw [if_pos c17] at H
      have c17b0 : decide (x17_1 < (l0_3.length : Int)) = true := decide_eq_true c17
      clear c17
      replace H := Option.bind_eq_some_iff.mp H
      obtain ⟨t213, A180, H⟩ := H
      replace H : ((conf_Server_53.f ((rd_T49 l0_3 x17_1).f1)).bind fun t216 => ((slices_Clone_int_int.f ((rd_T49 l0_3 x17_1).f2)).bind fun t219 => (if x3_1.length < 1759218604441 then (conf_Clone.l0 k1 (x3_1 ++ [(⟨t213, t216, t219, (⟨(rd_T49 l0_3 x17_1).f3.f0, (rd_T49 l0_3 x17_1).f3.f1, (rd_T49 l0_3 x17_1).f3.f2⟩ : S47)⟩ : S49)]) l0_3 (l0_3.length : Int) (wrap64 (x17_1 + 1)) a0_0 a0_1 t205 l0_3 t208) else (none)))) = some (r1, r2, r3, r4, r5) := H
      have A18 := asd A180
      clear A180
      replace H := Option.bind_eq_some_iff.mp H
      obtain ⟨t216, A190, H⟩ := H
      replace H : ((slices_Clone_int_int.f ((rd_T49 l0_3 x17_1).f2)).bind fun t219 => (if x3_1.length < 1759218604441 then (conf_Clone.l0 k1 (x3_1 ++ [(⟨t213, t216, t219, (⟨(rd_T49 l0_3 x17_1).f3.f0, (rd_T49 l0_3 x17_1).f3.f1, (rd_T49 l0_3 x17_1).f3.f2⟩ : S47)⟩ : S49)]) l0_3 (l0_3.length : Int) (wrap64 (x17_1 + 1)) a0_0 a0_1 t205 l0_3 t208) else (none))) = some (r1, r2, r3, r4, r5) := H
      have A19 := asd A190
      clear A190
      replace H := Option.bind_eq_some_iff.mp H
      obtain ⟨t219, A200, H⟩ := H
      replace H : (if x3_1.length < 1759218604441 then (conf_Clone.l0 k1 (x3_1 ++ [(⟨t213, t216, t219, (⟨(rd_T49 l0_3 x17_1).f3.f0, (rd_T49 l0_3 x17_1).f3.f1, (rd_T49 l0_3 x17_1).f3.f2⟩ : S47)⟩ : S49)]) l0_3 (l0_3.length : Int) (wrap64 (x17_1 + 1)) a0_0 a0_1 t205 l0_3 t208) else (none)) = some (r1, r2, r3, r4, r5) := H
      have A20 := asd A200
      clear A200
      by_cases c21 : x3_1.length < 1759218604441
      ·rw [if_pos c21] at H
       have LMc21 := asd c21
       clear c21
       obtain ⟨y222, hy222⟩ : ∃ y_ : List (S49), y_ = (x3_1 ++ [(⟨t213, t216, t219, (⟨(rd_T49 l0_3 x17_1).f3.f0, (rd_T49 l0_3 x17_1).f3.f1, (rd_T49 l0_3 x17_1).f3.f2⟩ : S47)⟩ : S49)]) := ⟨_, rfl⟩
       replace H : (conf_Clone.l0 k1 y222 l0_3 (l0_3.length : Int) (wrap64 (x17_1 + 1)) a0_0 a0_1 t205 l0_3 t208) = some (r1, r2, r3, r4, r5) := by first | (rw [hy222]; with_reducible exact H) | (have H2_ := (Option.bind_some _ _).symm.trans H; rw [hy222]; with_reducible exact H2_) | (have H2_ := (Option.bind_some _ _).symm.trans H; with_reducible exact H2_) | with_reducible exact H | (rw [hy222]; exact H) | exact H
       have Ny222 := asd hy222
       clear hy222
       have H' := asd H
       clear H
       have p211 : 0 ≤ (x17_1 : Int) := of_decide_eq_true (by assumption)
       have q211 : x17_1 < (l0_3.length : Int) := of_decide_eq_true (by assumption)
       obtain ⟨ad211, A211_0, c211_0, A211_1, c211_1, A211_2, c211_2, e211, hx211_0, hx211_1, hx211_2, hx211_3, hx211_4, hx211_5, hl211_0, hi211_0, hl211_1, hi211_1, hl211_2, hi211_2⟩ := at_T49 HR0_3.out x17_1 p211 q211
       cases e211
       replace hx211_0 := (HB.out.cell (World.block_lt_of_cell? w _ hx211_0)).trans hx211_0
       replace hx211_1 := (HB.out.cell (World.block_lt_of_cell? w _ hx211_1)).trans hx211_1
       replace hx211_2 := (HB.out.cell (World.block_lt_of_cell? w _ hx211_2)).trans hx211_2
       replace hx211_3 := (HB.out.cell (World.block_lt_of_cell? w _ hx211_3)).trans hx211_3
       replace hx211_4 := (HB.out.cell (World.block_lt_of_cell? w _ hx211_4)).trans hx211_4
       replace hx211_5 := (HB.out.cell (World.block_lt_of_cell? w _ hx211_5)).trans hx211_5
       have HR211_0 := asd hi211_0
       have HC211_0 := asd hl211_0
       clear hi211_0 hl211_0
       have HR211_1 := asd hi211_1
       have HC211_1 := asd hl211_1
       clear hi211_1 hl211_1
       have HR211_2 := asd hi211_2
       have HC211_2 := asd hl211_2
       clear hi211_2 hl211_2
       replace p211 := eq_true p211
       replace q211 := eq_true q211
       try go_wp2_with (first | ((with_reducible refine gate_dst (N := 5) rfl ?_); refine box_event ?hg (N := 5) ?hd (cs := #[.slice none 0 0, .slice none 0 0, .slice none 0 0, .int .u8 0, .int .u8 0, .int .u8 0]) (t := 49) ?hr ?_; (case hd => rfl); (case hg => rfl); (case hr => first | (go_simp; done) | (go_simp; rfl)); intro gb212 hg w22 hbox hb; have n0_ := asd (Kd.S_below (Kd.S_elderB (by (with_reducible repeat (first | apply Kd.S_alloc | apply Kd.S_drewN | apply Kd.S_drew)); exact HO_3.out) gb212 (Nat.le_of_eq hg.symm)) hb); have n1_ := asd (Kd.R_below (by (with_reducible repeat (first | apply Kd.R_alloc | apply Kd.R_drewN | apply Kd.R_drew)); exact HO_204002.out) hb); have n2_ := asd (Kd.R_below (by (with_reducible repeat (first | apply Kd.R_alloc | apply Kd.R_drewN | apply Kd.R_drew)); exact HO_204004.out) hb); have n3_ := asd (blk_below (g := gb203) (o := .cells #[.int .i64 a0_0, .int .i64 a0_1, .slice Ao9 t205.length co9, .slice (some ad211) l0_3.length c0_3, .slice Ao11 t208.length co11] 34 (0, 0)) (by (with_reducible repeat first | apply bn | apply bd | apply ba); exact BK203.out) hb); have n4_ := asd (blk_below (g := gb204) (o := .cells #[.int .i64 0, .int .i64 0, .slice none 0 0, .slice none 0 0, .slice none 0 0] 34 (0, 0)) (by (with_reducible repeat first | apply bn | apply bd | apply ba); exact BK204.out) hb); have n5_ := asd (below_step (by repeat (first | (with_reducible first | exact HB.out | apply wa | apply wn | apply wd | refine ws ?_ GE203.out | refine ws ?_ GE204.out) | exact HB.out)) hb); have n6_ := asd (hbox); have n7_ := asd ((by rw [hg]; exact (below_size (by repeat (first | (with_reducible first | exact HB.out | apply wa | apply wn | apply wd | refine ws ?_ GE203.out | refine ws ?_ GE204.out) | exact HB.out))) : w.heap.size ≤ gb212)); have n8_ := asd ((by rw [hg]; exact (below_size (by repeat (first | (with_reducible first | exact HB.out | apply wa | apply wn | apply wd | refine ws ?_ GE203.out | refine ws ?_ GE204.out) | exact HB.out))) : w.heap.size ≤ gb212)); have n9_ := asd ((by rw [hg]; exact Nat.ne_of_lt (blk_lt (g := gb203) (o := .cells #[.int .i64 a0_0, .int .i64 a0_1, .slice Ao9 t205.length co9, .slice (some ad211) l0_3.length c0_3, .slice Ao11 t208.length co11] 34 (0, 0)) (by (with_reducible repeat first | apply bn | apply bd | apply ba); exact BK203.out)) : gb203 ≠ gb212)); have n10_ := asd ((by rw [hg]; exact Nat.ne_of_gt (blk_lt (g := gb203) (o := .cells #[.int .i64 a0_0, .int .i64 a0_1, .slice Ao9 t205.length co9, .slice (some ad211) l0_3.length c0_3, .slice Ao11 t208.length co11] 34 (0, 0)) (by (with_reducible repeat first | apply bn | apply bd | apply ba); exact BK203.out)) : gb212 ≠ gb203)); have n11_ := asd ((by rw [hg]; exact Nat.ne_of_lt (blk_lt (g := gb204) (o := .cells #[.int .i64 0, .int .i64 0, .slice none 0 0, .slice none 0 0, .slice none 0 0] 34 (0, 0)) (by (with_reducible repeat first | apply bn | apply bd | apply ba); exact BK204.out)) : gb204 ≠ gb212)); have n12_ := asd ((by rw [hg]; exact Nat.ne_of_gt (blk_lt (g := gb204) (o := .cells #[.int .i64 0, .int .i64 0, .slice none 0 0, .slice none 0 0, .slice none 0 0] 34 (0, 0)) (by (with_reducible repeat first | apply bn | apply bd | apply ba); exact BK204.out)) : gb212 ≠ gb204)); clear HO_3; clear HO_204002; clear HO_204004; clear BK203; clear BK204; clear HB; have HO_3 := n0_; have HO_204002 := n1_; have HO_204004 := n2_; have BK203 := n3_; have BK204 := n4_; have HB := n5_; have BK212 := n6_; have GW212 := n7_; have GE212 := n8_; have NB203_212 := n9_; have NB212_203 := n10_; have NB204_212 := n11_; have NB212_204 := n12_; clear n0_ n1_ n2_ n3_ n4_ n5_ n6_ n7_ n8_ n9_ n10_ n11_ n12_; clear hb hbox hg; have hnb23 := NB212_203.out; have hnc23 := NB203_212.out; have hnb24 := NB212_204.out; have hnc24 := NB204_212.out; have hcz25_0 : w22.cell? ⟨gb212, 0, none⟩ = some (.slice none 0 0) := (blk_cell BK212.out 0).trans rfl; have hcz25_1 : w22.cell? ⟨gb212, 1, none⟩ = some (.slice none 0 0) := (blk_cell BK212.out 1).trans rfl; have hcz25_2 : w22.cell? ⟨gb212, 2, none⟩ = some (.slice none 0 0) := (blk_cell BK212.out 2).trans rfl; have hcz25_3 : w22.cell? ⟨gb212, 3, none⟩ = some (.int .u8 0) := (blk_cell BK212.out 3).trans rfl; have hcz25_4 : w22.cell? ⟨gb212, 4, none⟩ = some (.int .u8 0) := (blk_cell BK212.out 4).trans rfl; have hcz25_5 : w22.cell? ⟨gb212, 5, none⟩ = some (.int .u8 0) := (blk_cell BK212.out 5).trans rfl; have hfz25_0 := blk_frozen BK212.out 0; have hfz25_1 := blk_frozen BK212.out 1; have hfz25_2 := blk_frozen BK212.out 2; have hfz25_3 := blk_frozen BK212.out 3; have hfz25_4 := blk_frozen BK212.out 4; have hfz25_5 := blk_frozen BK212.out 5))
       have n0_ : Aside0 (Kd.S k49 49 ((((((w22.setCell ⟨gb212, 0, none⟩ (.slice A211_0 ((rd_T49 l0_3 x17_1).f0).length c211_0)).setCell ⟨gb212, 1, none⟩ (.slice A211_1 ((rd_T49 l0_3 x17_1).f1).length c211_1)).setCell ⟨gb212, 2, none⟩ (.slice A211_2 ((rd_T49 l0_3 x17_1).f2).length c211_2)).setCell ⟨gb212, 3, none⟩ (.int .u8 ((rd_T49 l0_3 x17_1).f3.f0))).setCell ⟨gb212, 4, none⟩ (.int .u8 ((rd_T49 l0_3 x17_1).f3.f1))).setCell ⟨gb212, 5, none⟩ (.int .u8 ((rd_T49 l0_3 x17_1).f3.f2))) w.heap.size (fun k_ => k_ ≠ gb212) u3 x3_1) := ⟨by (with_reducible repeat (first | apply Kd.S_alloc | apply Kd.S_drewN | apply Kd.S_drew)); exact Kd.S_mono (Kd.S_far (p := ⟨gb212, 5, none⟩) (Kd.S_far (p := ⟨gb212, 4, none⟩) (Kd.S_far (p := ⟨gb212, 3, none⟩) (Kd.S_far (p := ⟨gb212, 2, none⟩) (Kd.S_far (p := ⟨gb212, 1, none⟩) (Kd.S_far (p := ⟨gb212, 0, none⟩) (Kd.S_mono HO_3.out (fun k_ hk => (⟨hk, hk.2⟩ : _ ∧ k_ ≠ gb212))) (fun _ hk => hk.2) (.slice A211_0 ((rd_T49 l0_3 x17_1).f0).length c211_0)) (fun _ hk => hk.2) (.slice A211_1 ((rd_T49 l0_3 x17_1).f1).length c211_1)) (fun _ hk => hk.2) (.slice A211_2 ((rd_T49 l0_3 x17_1).f2).length c211_2)) (fun _ hk => hk.2) (.int .u8 ((rd_T49 l0_3 x17_1).f3.f0))) (fun _ hk => hk.2) (.int .u8 ((rd_T49 l0_3 x17_1).f3.f1))) (fun _ hk => hk.2) (.int .u8 ((rd_T49 l0_3 x17_1).f3.f2))) (fun _ hk => hk.1.2)⟩
       have n1_ : Aside0 (Kd.R k42 42 ((((((w22.setCell ⟨gb212, 0, none⟩ (.slice A211_0 ((rd_T49 l0_3 x17_1).f0).length c211_0)).setCell ⟨gb212, 1, none⟩ (.slice A211_1 ((rd_T49 l0_3 x17_1).f1).length c211_1)).setCell ⟨gb212, 2, none⟩ (.slice A211_2 ((rd_T49 l0_3 x17_1).f2).length c211_2)).setCell ⟨gb212, 3, none⟩ (.int .u8 ((rd_T49 l0_3 x17_1).f3.f0))).setCell ⟨gb212, 4, none⟩ (.int .u8 ((rd_T49 l0_3 x17_1).f3.f1))).setCell ⟨gb212, 5, none⟩ (.int .u8 ((rd_T49 l0_3 x17_1).f3.f2))) w.heap.size (fun _ => True) (.slice Ao9 t205.length co9) t205) := ⟨by (with_reducible repeat (first | apply Kd.R_alloc | apply Kd.R_drewN | apply Kd.R_drew)); exact Kd.R_mono (Kd.R_far (p := ⟨gb212, 5, none⟩) (Kd.R_far (p := ⟨gb212, 4, none⟩) (Kd.R_far (p := ⟨gb212, 3, none⟩) (Kd.R_far (p := ⟨gb212, 2, none⟩) (Kd.R_far (p := ⟨gb212, 1, none⟩) (Kd.R_far (p := ⟨gb212, 0, none⟩) (Kd.R_types HO_204002.out BK212.out (by decide)) (fun _ hk => hk.2) (.slice A211_0 ((rd_T49 l0_3 x17_1).f0).length c211_0)) (fun _ hk => hk.2) (.slice A211_1 ((rd_T49 l0_3 x17_1).f1).length c211_1)) (fun _ hk => hk.2) (.slice A211_2 ((rd_T49 l0_3 x17_1).f2).length c211_2)) (fun _ hk => hk.2) (.int .u8 ((rd_T49 l0_3 x17_1).f3.f0))) (fun _ hk => hk.2) (.int .u8 ((rd_T49 l0_3 x17_1).f3.f1))) (fun _ hk => hk.2) (.int .u8 ((rd_T49 l0_3 x17_1).f3.f2))) (fun _ hk => trivial)⟩
       have n2_ : Aside0 (Kd.R k44 44 ((((((w22.setCell ⟨gb212, 0, none⟩ (.slice A211_0 ((rd_T49 l0_3 x17_1).f0).length c211_0)).setCell ⟨gb212, 1, none⟩ (.slice A211_1 ((rd_T49 l0_3 x17_1).f1).length c211_1)).setCell ⟨gb212, 2, none⟩ (.slice A211_2 ((rd_T49 l0_3 x17_1).f2).length c211_2)).setCell ⟨gb212, 3, none⟩ (.int .u8 ((rd_T49 l0_3 x17_1).f3.f0))).setCell ⟨gb212, 4, none⟩ (.int .u8 ((rd_T49 l0_3 x17_1).f3.f1))).setCell ⟨gb212, 5, none⟩ (.int .u8 ((rd_T49 l0_3 x17_1).f3.f2))) w.heap.size (fun _ => True) (.slice Ao11 t208.length co11) t208) := ⟨by (with_reducible repeat (first | apply Kd.R_alloc | apply Kd.R_drewN | apply Kd.R_drew)); exact Kd.R_mono (Kd.R_far (p := ⟨gb212, 5, none⟩) (Kd.R_far (p := ⟨gb212, 4, none⟩) (Kd.R_far (p := ⟨gb212, 3, none⟩) (Kd.R_far (p := ⟨gb212, 2, none⟩) (Kd.R_far (p := ⟨gb212, 1, none⟩) (Kd.R_far (p := ⟨gb212, 0, none⟩) (Kd.R_types HO_204004.out BK212.out (by decide)) (fun _ hk => hk.2) (.slice A211_0 ((rd_T49 l0_3 x17_1).f0).length c211_0)) (fun _ hk => hk.2) (.slice A211_1 ((rd_T49 l0_3 x17_1).f1).length c211_1)) (fun _ hk => hk.2) (.slice A211_2 ((rd_T49 l0_3 x17_1).f2).length c211_2)) (fun _ hk => hk.2) (.int .u8 ((rd_T49 l0_3 x17_1).f3.f0))) (fun _ hk => hk.2) (.int .u8 ((rd_T49 l0_3 x17_1).f3.f1))) (fun _ hk => hk.2) (.int .u8 ((rd_T49 l0_3 x17_1).f3.f2))) (fun _ hk => trivial)⟩
       have n3_ : Aside0 (((((((w22.setCell ⟨gb212, 0, none⟩ (.slice A211_0 ((rd_T49 l0_3 x17_1).f0).length c211_0)).setCell ⟨gb212, 1, none⟩ (.slice A211_1 ((rd_T49 l0_3 x17_1).f1).length c211_1)).setCell ⟨gb212, 2, none⟩ (.slice A211_2 ((rd_T49 l0_3 x17_1).f2).length c211_2)).setCell ⟨gb212, 3, none⟩ (.int .u8 ((rd_T49 l0_3 x17_1).f3.f0))).setCell ⟨gb212, 4, none⟩ (.int .u8 ((rd_T49 l0_3 x17_1).f3.f1))).setCell ⟨gb212, 5, none⟩ (.int .u8 ((rd_T49 l0_3 x17_1).f3.f2))).heap[gb203]? = some (.cells #[.int .i64 a0_0, .int .i64 a0_1, .slice Ao9 t205.length co9, .slice (some ad211) l0_3.length c0_3, .slice Ao11 t208.length co11] 34 (0, 0))) := ⟨by (with_reducible repeat first | apply bn | apply bd | apply ba); refine blk_far ?_ NB203_212.out _; (with_reducible repeat first | apply bn | apply bd | apply ba); refine blk_far ?_ NB203_212.out _; (with_reducible repeat first | apply bn | apply bd | apply ba); refine blk_far ?_ NB203_212.out _; (with_reducible repeat first | apply bn | apply bd | apply ba); refine blk_far ?_ NB203_212.out _; (with_reducible repeat first | apply bn | apply bd | apply ba); refine blk_far ?_ NB203_212.out _; (with_reducible repeat first | apply bn | apply bd | apply ba); refine blk_far ?_ NB203_212.out _; (with_reducible repeat first | apply bn | apply bd | apply ba); exact BK203.out⟩
       have n4_ : Aside0 (((((((w22.setCell ⟨gb212, 0, none⟩ (.slice A211_0 ((rd_T49 l0_3 x17_1).f0).length c211_0)).setCell ⟨gb212, 1, none⟩ (.slice A211_1 ((rd_T49 l0_3 x17_1).f1).length c211_1)).setCell ⟨gb212, 2, none⟩ (.slice A211_2 ((rd_T49 l0_3 x17_1).f2).length c211_2)).setCell ⟨gb212, 3, none⟩ (.int .u8 ((rd_T49 l0_3 x17_1).f3.f0))).setCell ⟨gb212, 4, none⟩ (.int .u8 ((rd_T49 l0_3 x17_1).f3.f1))).setCell ⟨gb212, 5, none⟩ (.int .u8 ((rd_T49 l0_3 x17_1).f3.f2))).heap[gb204]? = some (.cells #[.int .i64 0, .int .i64 0, .slice none 0 0, .slice none 0 0, .slice none 0 0] 34 (0, 0))) := ⟨by (with_reducible repeat first | apply bn | apply bd | apply ba); refine blk_far ?_ NB204_212.out _; (with_reducible repeat first | apply bn | apply bd | apply ba); refine blk_far ?_ NB204_212.out _; (with_reducible repeat first | apply bn | apply bd | apply ba); refine blk_far ?_ NB204_212.out _; (with_reducible repeat first | apply bn | apply bd | apply ba); refine blk_far ?_ NB204_212.out _; (with_reducible repeat first | apply bn | apply bd | apply ba); refine blk_far ?_ NB204_212.out _; (with_reducible repeat first | apply bn | apply bd | apply ba); refine blk_far ?_ NB204_212.out _; (with_reducible repeat first | apply bn | apply bd | apply ba); exact BK204.out⟩
       have n5_ : Aside0 (((((((w22.setCell ⟨gb212, 0, none⟩ (.slice A211_0 ((rd_T49 l0_3 x17_1).f0).length c211_0)).setCell ⟨gb212, 1, none⟩ (.slice A211_1 ((rd_T49 l0_3 x17_1).f1).length c211_1)).setCell ⟨gb212, 2, none⟩ (.slice A211_2 ((rd_T49 l0_3 x17_1).f2).length c211_2)).setCell ⟨gb212, 3, none⟩ (.int .u8 ((rd_T49 l0_3 x17_1).f3.f0))).setCell ⟨gb212, 4, none⟩ (.int .u8 ((rd_T49 l0_3 x17_1).f3.f1))).setCell ⟨gb212, 5, none⟩ (.int .u8 ((rd_T49 l0_3 x17_1).f3.f2))).heap[gb212]? = some (.cells #[.slice A211_0 ((rd_T49 l0_3 x17_1).f0).length c211_0, .slice A211_1 ((rd_T49 l0_3 x17_1).f1).length c211_1, .slice A211_2 ((rd_T49 l0_3 x17_1).f2).length c211_2, .int .u8 ((rd_T49 l0_3 x17_1).f3.f0), .int .u8 ((rd_T49 l0_3 x17_1).f3.f1), .int .u8 ((rd_T49 l0_3 x17_1).f3.f2)] 49 (0, 0))) := ⟨by (with_reducible repeat first | apply bn | apply bd | apply ba); refine blk_put (cs := #[.slice A211_0 ((rd_T49 l0_3 x17_1).f0).length c211_0, .slice A211_1 ((rd_T49 l0_3 x17_1).f1).length c211_1, .slice A211_2 ((rd_T49 l0_3 x17_1).f2).length c211_2, .int .u8 ((rd_T49 l0_3 x17_1).f3.f0), .int .u8 ((rd_T49 l0_3 x17_1).f3.f1), .int .u8 0]) ?_ 5 _ rfl; (with_reducible repeat first | apply bn | apply bd | apply ba); refine blk_put (cs := #[.slice A211_0 ((rd_T49 l0_3 x17_1).f0).length c211_0, .slice A211_1 ((rd_T49 l0_3 x17_1).f1).length c211_1, .slice A211_2 ((rd_T49 l0_3 x17_1).f2).length c211_2, .int .u8 ((rd_T49 l0_3 x17_1).f3.f0), .int .u8 0, .int .u8 0]) ?_ 4 _ rfl; (with_reducible repeat first | apply bn | apply bd | apply ba); refine blk_put (cs := #[.slice A211_0 ((rd_T49 l0_3 x17_1).f0).length c211_0, .slice A211_1 ((rd_T49 l0_3 x17_1).f1).length c211_1, .slice A211_2 ((rd_T49 l0_3 x17_1).f2).length c211_2, .int .u8 0, .int .u8 0, .int .u8 0]) ?_ 3 _ rfl; (with_reducible repeat first | apply bn | apply bd | apply ba); refine blk_put (cs := #[.slice A211_0 ((rd_T49 l0_3 x17_1).f0).length c211_0, .slice A211_1 ((rd_T49 l0_3 x17_1).f1).length c211_1, .slice none 0 0, .int .u8 0, .int .u8 0, .int .u8 0]) ?_ 2 _ rfl; (with_reducible repeat first | apply bn | apply bd | apply ba); refine blk_put (cs := #[.slice A211_0 ((rd_T49 l0_3 x17_1).f0).length c211_0, .slice none 0 0, .slice none 0 0, .int .u8 0, .int .u8 0, .int .u8 0]) ?_ 1 _ rfl; (with_reducible repeat first | apply bn | apply bd | apply ba); refine blk_put (cs := #[.slice none 0 0, .slice none 0 0, .slice none 0 0, .int .u8 0, .int .u8 0, .int .u8 0]) ?_ 0 _ rfl; (with_reducible repeat first | apply bn | apply bd | apply ba); exact BK212.out⟩
       have n6_ : Aside0 (Below w.heap.size w ((((((w22.setCell ⟨gb212, 0, none⟩ (.slice A211_0 ((rd_T49 l0_3 x17_1).f0).length c211_0)).setCell ⟨gb212, 1, none⟩ (.slice A211_1 ((rd_T49 l0_3 x17_1).f1).length c211_1)).setCell ⟨gb212, 2, none⟩ (.slice A211_2 ((rd_T49 l0_3 x17_1).f2).length c211_2)).setCell ⟨gb212, 3, none⟩ (.int .u8 ((rd_T49 l0_3 x17_1).f3.f0))).setCell ⟨gb212, 4, none⟩ (.int .u8 ((rd_T49 l0_3 x17_1).f3.f1))).setCell ⟨gb212, 5, none⟩ (.int .u8 ((rd_T49 l0_3 x17_1).f3.f2)))) := ⟨by repeat (first | (with_reducible first | exact HB.out | apply wa | apply wn | apply wd | refine ws ?_ GE203.out | refine ws ?_ GE204.out | refine ws ?_ GE212.out) | exact HB.out)⟩
       (try clear HO_3)
       (try clear HO_204002)
       (try clear HO_204004)
       (try clear BK203)
       (try clear BK204)
       (try clear BK212)
       (try clear HB)
       generalize ((((((w22.setCell ⟨gb212, 0, none⟩ (.slice A211_0 ((rd_T49 l0_3 x17_1).f0).length c211_0)).setCell ⟨gb212, 1, none⟩ (.slice A211_1 ((rd_T49 l0_3 x17_1).f1).length c211_1)).setCell ⟨gb212, 2, none⟩ (.slice A211_2 ((rd_T49 l0_3 x17_1).f2).length c211_2)).setCell ⟨gb212, 3, none⟩ (.int .u8 ((rd_T49 l0_3 x17_1).f3.f0))).setCell ⟨gb212, 4, none⟩ (.int .u8 ((rd_T49 l0_3 x17_1).f3.f1))).setCell ⟨gb212, 5, none⟩ (.int .u8 ((rd_T49 l0_3 x17_1).f3.f2))) = w26 at n0_ n1_ n2_ n3_ n4_ n5_ n6_ ⊢
       have HO_3 := n0_
       have HO_204002 := n1_
       have HO_204004 := n2_
       have BK203 := n3_
       have BK204 := n4_
       have BK212 := n5_
       have HB := n6_
       clear n0_ n1_ n2_ n3_ n4_ n5_ n6_
       have n0_ := asd (Kd.S_drew HO_3.out)
       have n1_ := asd (Kd.R_drew HO_204002.out)
       have n2_ := asd (Kd.R_drew HO_204004.out)
       have n3_ := asd (blk_drew BK203.out)
       have n4_ := asd (blk_drew BK204.out)
       have n5_ := asd (blk_drew BK212.out)
       have n6_ := asd (below_drew1 HB.out)
       clear HO_3
       clear HO_204002
       clear HO_204004
       clear BK203
       clear BK204
       clear BK212
       clear HB
       have HO_3 := n0_
       have HO_204002 := n1_
       have HO_204004 := n2_
       have BK203 := n3_
       have BK204 := n4_
       have BK212 := n5_
       have HB := n6_
       clear n0_ n1_ n2_ n3_ n4_ n5_ n6_
       refine start_ (n := 16) (S := fun w' => w'.cell? ⟨gb212, 0, none⟩ = some (.slice A211_0 ((rd_T49 l0_3 x17_1).f0).length c211_0) ∧ w'.cell? ⟨gb212, 1, none⟩ = some (.slice A211_1 ((rd_T49 l0_3 x17_1).f1).length c211_1) ∧ w'.cell? ⟨gb212, 2, none⟩ = some (.slice A211_2 ((rd_T49 l0_3 x17_1).f2).length c211_2) ∧ w'.cell? ⟨gb212, 3, none⟩ = some (.int .u8 ((rd_T49 l0_3 x17_1).f3.f0)) ∧ w'.cell? ⟨gb212, 4, none⟩ = some (.int .u8 ((rd_T49 l0_3 x17_1).f3.f1)) ∧ w'.cell? ⟨gb212, 5, none⟩ = some (.int .u8 ((rd_T49 l0_3 x17_1).f3.f2))) (ds := []) #[false, false, false, false, false, false, false, false, false, false, false, false, false, false, false, false] (by kernel_rfl) rfl rfl ⟨(blk_cell BK212.out 0).trans rfl, (blk_cell BK212.out 1).trans rfl, (blk_cell BK212.out 2).trans rfl, (blk_cell BK212.out 3).trans rfl, (blk_cell BK212.out 4).trans rfl, (blk_cell BK212.out 5).trans rfl⟩ (fun hHeld => ?_); refine with_tabW conf_Clone.tab6 conf_Clone.bits6 (fun HT_ HW_ => ?_)
       generalize w26.drew = w27 at HO_3 HO_204002 HO_204004 BK203 BK204 BK212 HB hHeld ⊢
       refine pure_ (i := 0) (N := some 21) (v := ?_) (a' := ?_) #[true, false, false, false, false, false, false, false, false, false, false, false, false, false, false, false] rfl rfl (any_of HT_.out (by kernel_rfl)) (fun _ _ _ h => h) (Or.inl ⟨by rfl, ?_⟩) ?_ ?_
       rotate_left
       ·intro w'
        go_simp
        with_reducible rfl
       rotate_left
       ·simp only [Act.put, sB, i64_w, i32_w]
        rfl
       refine pure_ (i := 1) (N := some 22) (v := ?_) (a' := ?_) #[true, true, false, false, false, false, false, false, false, false, false, false, false, false, false, false] rfl rfl (any_of HT_.out (by kernel_rfl)) (fun _ _ _ h => h) (Or.inl ⟨by rfl, ?_⟩) ?_ ?_
       rotate_left
       ·intro w'
        go_simp
        with_reducible rfl
       rotate_left
       ·simp only [Act.put, sB, i64_w, i32_w]
        rfl
       refine pure_ (i := 4) (N := some 25) (v := ?_) (a' := ?_) #[true, true, false, false, true, false, false, false, false, false, false, false, false, false, false, false] rfl rfl (any_of HT_.out (by kernel_rfl)) (fun _ _ _ h => h) (Or.inl ⟨by rfl, ?_⟩) ?_ ?_
       rotate_left
       ·intro w'
        go_simp
        with_reducible rfl
       rotate_left
       ·simp only [Act.put, sB, i64_w, i32_w]
        rfl
       refine pure_ (i := 7) (N := some 28) (v := ?_) (a' := ?_) #[true, true, false, false, true, false, false, true, false, false, false, false, false, false, false, false] rfl rfl (any_of HT_.out (by kernel_rfl)) (fun _ _ _ h => h) (Or.inl ⟨by rfl, ?_⟩) ?_ ?_
       rotate_left
       ·intro w'
        go_simp
        with_reducible rfl
       rotate_left
       ·simp only [Act.put, sB, i64_w, i32_w]
        rfl
       refine pure_ (i := 10) (N := some 31) (v := ?_) (a' := ?_) #[true, true, false, false, true, false, false, true, false, false, true, false, false, false, false, false] rfl rfl (any_of HT_.out (by kernel_rfl)) (fun _ _ _ h => h) (Or.inl ⟨by rfl, ?_⟩) ?_ ?_
       rotate_left
       ·intro w'
        go_simp
        with_reducible rfl
       rotate_left
       ·simp only [Act.put, sB, i64_w, i32_w]
        rfl
       refine take_ (i := 2) (N := some 23) (v := ?_) (a' := ?_) #[true, true, true, false, true, false, false, true, false, false, true, false, false, false, false, false] rfl rfl (take_ofW HT_.out HW_.out (by kernel_rfl)) (fun _ _ _ h => h) (Or.inl ⟨by rfl, ?_⟩) hHeld ?_ ?_
       rotate_left
       ·rintro w' ⟨s0, s1, s2, s3, s4, s5⟩
        go_simp
        with_reducible rfl
       rotate_left
       ·simp only [Act.put, sB, i64_w, i32_w]
        rfl
       refine take_ (i := 5) (N := some 26) (v := ?_) (a' := ?_) #[true, true, true, false, true, true, false, true, false, false, true, false, false, false, false, false] rfl rfl (take_ofW HT_.out HW_.out (by kernel_rfl)) (fun _ _ _ h => h) (Or.inl ⟨by rfl, ?_⟩) hHeld ?_ ?_
       rotate_left
       ·rintro w' ⟨s0, s1, s2, s3, s4, s5⟩
        go_simp
        with_reducible rfl
       rotate_left
       ·simp only [Act.put, sB, i64_w, i32_w]
        rfl
       refine take_ (i := 8) (N := some 29) (v := ?_) (a' := ?_) #[true, true, true, false, true, true, false, true, true, false, true, false, false, false, false, false] rfl rfl (take_ofW HT_.out HW_.out (by kernel_rfl)) (fun _ _ _ h => h) (Or.inl ⟨by rfl, ?_⟩) hHeld ?_ ?_
       rotate_left
       ·rintro w' ⟨s0, s1, s2, s3, s4, s5⟩
        go_simp
        with_reducible rfl
       rotate_left
       ·simp only [Act.put, sB, i64_w, i32_w]
        rfl
       refine take_ (i := 11) (N := some 32) (v := ?_) (a' := ?_) #[true, true, true, false, true, true, false, true, true, false, true, true, false, false, false, false] rfl rfl (take_ofW HT_.out HW_.out (by kernel_rfl)) (fun _ _ _ h => h) (Or.inl ⟨by rfl, ?_⟩) hHeld ?_ ?_
       rotate_left
       ·rintro w' ⟨s0, s1, s2, s3, s4, s5⟩
        go_simp
        with_reducible rfl
       rotate_left
       ·simp only [Act.put, sB, i64_w, i32_w]
        rfl
       refine one_ (i := 3) (N := some 24) #[true, true, true, true, true, true, false, true, true, false, true, true, false, false, false, false] rfl rfl (one_of HT_.out (by kernel_rfl)) (by decide) (fun K hK => ?_)
       refine goes_ Try.func52 (by kernel_rfl) rfl #[.slice A211_0 ((rd_T49 l0_3 x17_1).f0).length c211_0] (by rfl) rfl rfl (by (try simp only [List.map_toArray, List.map_cons, List.map_nil]); first | done | rfl | (simp only [List.length_drop, List.length_take]; rfl)) ?_
       with_reducible refine (conf_Task_52.calls _ _ ((rd_T49 l0_3 x17_1).f0) t213 _ ?side1 ?side2 A18.out).mono ?_
       (case side1 => repeat (first | exact (Kd.C_below HR211_0.out HB.out) | (with_reducible refine Kd.C_alloc ?_ _) | (with_reducible refine Kd.C_drewN ?_ _) | (with_reducible refine Kd.C_drew ?_)))
       (case side2 => exact HC211_0.out)
       rintro e w28 ⟨v214, rfl, ho0, hb⟩
       refine ⟨_, rfl, ?_⟩
       have n0_ := asd (Kd.S_elder' (by (with_reducible repeat (first | apply Kd.S_alloc | apply Kd.S_drewN | apply Kd.S_drew)); exact HO_3.out) (Kd.R_base ho0) hb)
       have n1_ := asd (Kd.R_below (by (with_reducible repeat (first | apply Kd.R_alloc | apply Kd.R_drewN | apply Kd.R_drew)); exact HO_204002.out) hb)
       have n2_ := asd (Kd.R_below (by (with_reducible repeat (first | apply Kd.R_alloc | apply Kd.R_drewN | apply Kd.R_drew)); exact HO_204004.out) hb)
       have n3_ := asd (Kd.R_lower ho0 (below_size (by repeat (first | (with_reducible first | exact HB.out | apply wa | apply wn | apply wd | refine ws ?_ GE203.out | refine ws ?_ GE204.out | refine ws ?_ GE212.out) | exact HB.out))))
       have n4_ := asd (blk_below (g := gb203) (o := .cells #[.int .i64 a0_0, .int .i64 a0_1, .slice Ao9 t205.length co9, .slice (some ad211) l0_3.length c0_3, .slice Ao11 t208.length co11] 34 (0, 0)) (by (with_reducible repeat first | apply bn | apply bd | apply ba); exact BK203.out) hb)
       have n5_ := asd (blk_below (g := gb204) (o := .cells #[.int .i64 0, .int .i64 0, .slice none 0 0, .slice none 0 0, .slice none 0 0] 34 (0, 0)) (by (with_reducible repeat first | apply bn | apply bd | apply ba); exact BK204.out) hb)
       have n6_ := asd (blk_below (g := gb212) (o := .cells #[.slice A211_0 ((rd_T49 l0_3 x17_1).f0).length c211_0, .slice A211_1 ((rd_T49 l0_3 x17_1).f1).length c211_1, .slice A211_2 ((rd_T49 l0_3 x17_1).f2).length c211_2, .int .u8 ((rd_T49 l0_3 x17_1).f3.f0), .int .u8 ((rd_T49 l0_3 x17_1).f3.f1), .int .u8 ((rd_T49 l0_3 x17_1).f3.f2)] 49 (0, 0)) (by (with_reducible repeat first | apply bn | apply bd | apply ba); exact BK212.out) hb)
       have n7_ := asd (below_step (by repeat (first | (with_reducible first | exact HB.out | apply wa | apply wn | apply wd | refine ws ?_ GE203.out | refine ws ?_ GE204.out | refine ws ?_ GE212.out) | exact HB.out)) hb)
       clear HO_3
       clear HO_204002
       clear HO_204004
       clear BK203
       clear BK204
       clear BK212
       clear HB
       have HO_3 := n0_
       have HO_204002 := n1_
       have HO_204004 := n2_
       have HO215 := n3_
       have BK203 := n4_
       have BK204 := n5_
       have BK212 := n6_
       have HB := n7_
       clear n0_ n1_ n2_ n3_ n4_ n5_ n6_ n7_
       (try clear hb)
       (try clear hb2)
       (try clear hk)
       (try clear hi)
       (try clear ho0)
       refine hK.out _ _ ⟨(blk_cell BK212.out 0).trans rfl, (blk_cell BK212.out 1).trans rfl, (blk_cell BK212.out 2).trans rfl, (blk_cell BK212.out 3).trans rfl, (blk_cell BK212.out 4).trans rfl, (blk_cell BK212.out 5).trans rfl⟩ (fun hHeld => ?_)
       clear hK K
       refine norm_ (a' := ?_) ?_ ?_
       rotate_left
       ·show Act.put _ (some 24) _ = _
        simp only [Act.put, sB, i64_w, i32_w]
        rfl
       refine one_ (i := 6) (N := some 27) #[true, true, true, true, true, true, true, true, true, false, true, true, false, false, false, false] rfl rfl (one_of HT_.out (by kernel_rfl)) (by decide) (fun K hK => ?_)
       refine goes_ Try.func53 (by kernel_rfl) rfl #[.slice A211_1 ((rd_T49 l0_3 x17_1).f1).length c211_1] (by rfl) rfl rfl (by (try simp only [List.map_toArray, List.map_cons, List.map_nil]); first | done | rfl | (simp only [List.length_drop, List.length_take]; rfl)) ?_
       with_reducible refine (conf_Server_53.calls _ _ ((rd_T49 l0_3 x17_1).f1) t216 _ ?side1 ?side2 A19.out).mono ?_
       (case side1 => repeat (first | exact (Kd.C_below HR211_1.out HB.out) | (with_reducible refine Kd.C_alloc ?_ _) | (with_reducible refine Kd.C_drewN ?_ _) | (with_reducible refine Kd.C_drew ?_)))
       (case side2 => exact HC211_1.out)
       rintro e w29 ⟨v217, rfl, ho0, hb⟩
       refine ⟨_, rfl, ?_⟩
       have n0_ := asd (Kd.S_elder' (by (with_reducible repeat (first | apply Kd.S_alloc | apply Kd.S_drewN | apply Kd.S_drew)); exact HO_3.out) (Kd.R_base ho0) hb)
       have n1_ := asd (Kd.R_below (by (with_reducible repeat (first | apply Kd.R_alloc | apply Kd.R_drewN | apply Kd.R_drew)); exact HO_204002.out) hb)
       have n2_ := asd (Kd.R_below (by (with_reducible repeat (first | apply Kd.R_alloc | apply Kd.R_drewN | apply Kd.R_drew)); exact HO_204004.out) hb)
       have n3_ := asd (Kd.R_below (by (with_reducible repeat (first | apply Kd.R_alloc | apply Kd.R_drewN | apply Kd.R_drew)); exact HO215.out) hb)
       have n4_ := asd (Kd.R_lower ho0 (below_size (by repeat (first | (with_reducible first | exact HB.out | apply wa | apply wn | apply wd | refine ws ?_ GE203.out | refine ws ?_ GE204.out | refine ws ?_ GE212.out) | exact HB.out))))
       have n5_ := asd (blk_below (g := gb203) (o := .cells #[.int .i64 a0_0, .int .i64 a0_1, .slice Ao9 t205.length co9, .slice (some ad211) l0_3.length c0_3, .slice Ao11 t208.length co11] 34 (0, 0)) (by (with_reducible repeat first | apply bn | apply bd | apply ba); exact BK203.out) hb)
       have n6_ := asd (blk_below (g := gb204) (o := .cells #[.int .i64 0, .int .i64 0, .slice none 0 0, .slice none 0 0, .slice none 0 0] 34 (0, 0)) (by (with_reducible repeat first | apply bn | apply bd | apply ba); exact BK204.out) hb)
       have n7_ := asd (blk_below (g := gb212) (o := .cells #[.slice A211_0 ((rd_T49 l0_3 x17_1).f0).length c211_0, .slice A211_1 ((rd_T49 l0_3 x17_1).f1).length c211_1, .slice A211_2 ((rd_T49 l0_3 x17_1).f2).length c211_2, .int .u8 ((rd_T49 l0_3 x17_1).f3.f0), .int .u8 ((rd_T49 l0_3 x17_1).f3.f1), .int .u8 ((rd_T49 l0_3 x17_1).f3.f2)] 49 (0, 0)) (by (with_reducible repeat first | apply bn | apply bd | apply ba); exact BK212.out) hb)
       have n8_ := asd (below_step (by repeat (first | (with_reducible first | exact HB.out | apply wa | apply wn | apply wd | refine ws ?_ GE203.out | refine ws ?_ GE204.out | refine ws ?_ GE212.out) | exact HB.out)) hb)
       clear HO_3
       clear HO_204002
       clear HO_204004
       clear HO215
       clear BK203
       clear BK204
       clear BK212
       clear HB
       have HO_3 := n0_
       have HO_204002 := n1_
       have HO_204004 := n2_
       have HO215 := n3_
       have HO218 := n4_
       have BK203 := n5_
       have BK204 := n6_
       have BK212 := n7_
       have HB := n8_
       clear n0_ n1_ n2_ n3_ n4_ n5_ n6_ n7_ n8_
       (try clear hb)
       (try clear hb2)
       (try clear hk)
       (try clear hi)
       (try clear ho0)
       refine hK.out _ _ ⟨(blk_cell BK212.out 0).trans rfl, (blk_cell BK212.out 1).trans rfl, (blk_cell BK212.out 2).trans rfl, (blk_cell BK212.out 3).trans rfl, (blk_cell BK212.out 4).trans rfl, (blk_cell BK212.out 5).trans rfl⟩ (fun hHeld => ?_)
       clear hK K
       refine norm_ (a' := ?_) ?_ ?_
       rotate_left
       ·show Act.put _ (some 27) _ = _
        simp only [Act.put, sB, i64_w, i32_w]
        rfl
       refine one_ (i := 9) (N := some 30) #[true, true, true, true, true, true, true, true, true, true, true, true, false, false, false, false] rfl rfl (one_of HT_.out (by kernel_rfl)) (by decide) (fun K hK => ?_)
       refine goes_ Try.func54 (by kernel_rfl) rfl #[.slice A211_2 ((rd_T49 l0_3 x17_1).f2).length c211_2] (by rfl) rfl rfl (by (try simp only [List.map_toArray, List.map_cons, List.map_nil]); first | done | rfl | (simp only [List.length_drop, List.length_take]; rfl)) ?_
       with_reducible refine (slices_Clone_int_int.calls _ _ ((rd_T49 l0_3 x17_1).f2) t219 _ ?side1 ?side2 A20.out).mono ?_
       (case side1 => repeat (first | exact (Kd.C_below HR211_2.out HB.out) | (with_reducible refine Kd.C_alloc ?_ _) | (with_reducible refine Kd.C_drewN ?_ _) | (with_reducible refine Kd.C_drew ?_)))
       (case side2 => exact HC211_2.out)
       rintro e w30 ⟨v220, rfl, ho0, hb⟩
       refine ⟨_, rfl, ?_⟩
       have n0_ := asd (Kd.S_elder' (by (with_reducible repeat (first | apply Kd.S_alloc | apply Kd.S_drewN | apply Kd.S_drew)); exact HO_3.out) (Kd.R_base ho0) hb)
       have n1_ := asd (Kd.R_below (by (with_reducible repeat (first | apply Kd.R_alloc | apply Kd.R_drewN | apply Kd.R_drew)); exact HO_204002.out) hb)
       have n2_ := asd (Kd.R_below (by (with_reducible repeat (first | apply Kd.R_alloc | apply Kd.R_drewN | apply Kd.R_drew)); exact HO_204004.out) hb)
       have n3_ := asd (Kd.R_below (by (with_reducible repeat (first | apply Kd.R_alloc | apply Kd.R_drewN | apply Kd.R_drew)); exact HO215.out) hb)
       have n4_ := asd (Kd.R_below (by (with_reducible repeat (first | apply Kd.R_alloc | apply Kd.R_drewN | apply Kd.R_drew)); exact HO218.out) hb)
       have n5_ := asd (Kd.R_lower ho0 (below_size (by repeat (first | (with_reducible first | exact HB.out | apply wa | apply wn | apply wd | refine ws ?_ GE203.out | refine ws ?_ GE204.out | refine ws ?_ GE212.out) | exact HB.out))))
       have n6_ := asd (blk_below (g := gb203) (o := .cells #[.int .i64 a0_0, .int .i64 a0_1, .slice Ao9 t205.length co9, .slice (some ad211) l0_3.length c0_3, .slice Ao11 t208.length co11] 34 (0, 0)) (by (with_reducible repeat first | apply bn | apply bd | apply ba); exact BK203.out) hb)
       have n7_ := asd (blk_below (g := gb204) (o := .cells #[.int .i64 0, .int .i64 0, .slice none 0 0, .slice none 0 0, .slice none 0 0] 34 (0, 0)) (by (with_reducible repeat first | apply bn | apply bd | apply ba); exact BK204.out) hb)
       have n8_ := asd (blk_below (g := gb212) (o := .cells #[.slice A211_0 ((rd_T49 l0_3 x17_1).f0).length c211_0, .slice A211_1 ((rd_T49 l0_3 x17_1).f1).length c211_1, .slice A211_2 ((rd_T49 l0_3 x17_1).f2).length c211_2, .int .u8 ((rd_T49 l0_3 x17_1).f3.f0), .int .u8 ((rd_T49 l0_3 x17_1).f3.f1), .int .u8 ((rd_T49 l0_3 x17_1).f3.f2)] 49 (0, 0)) (by (with_reducible repeat first | apply bn | apply bd | apply ba); exact BK212.out) hb)
       have n9_ := asd (below_step (by repeat (first | (with_reducible first | exact HB.out | apply wa | apply wn | apply wd | refine ws ?_ GE203.out | refine ws ?_ GE204.out | refine ws ?_ GE212.out) | exact HB.out)) hb)
       clear HO_3
       clear HO_204002
       clear HO_204004
       clear HO215
       clear HO218
       clear BK203
       clear BK204
       clear BK212
       clear HB
       have HO_3 := n0_
       have HO_204002 := n1_
       have HO_204004 := n2_
       have HO215 := n3_
       have HO218 := n4_
       have HO221 := n5_
       have BK203 := n6_
       have BK204 := n7_
       have BK212 := n8_
       have HB := n9_
       clear n0_ n1_ n2_ n3_ n4_ n5_ n6_ n7_ n8_ n9_
       (try clear hb)
       (try clear hb2)
       (try clear hk)
       (try clear hi)
       (try clear ho0)
       obtain ⟨Ao31, co31, eo31⟩ := Kd.R_slice HO221.out
       (first | subst eo31 | (injection eo31 with f1_ f2_ f3_; have f4_ := f1_.symm; have f5_ := f3_.symm; clear f1_ f2_ f3_; subst f4_; subst f5_))
       obtain ⟨Ao32, co32, eo32⟩ := Kd.R_slice HO218.out
       (first | subst eo32 | (injection eo32 with f1_ f2_ f3_; have f4_ := f1_.symm; have f5_ := f3_.symm; clear f1_ f2_ f3_; subst f4_; subst f5_))
       obtain ⟨Ao33, co33, eo33⟩ := Kd.R_slice HO215.out
       (first | subst eo33 | (injection eo33 with f1_ f2_ f3_; have f4_ := f1_.symm; have f5_ := f3_.symm; clear f1_ f2_ f3_; subst f4_; subst f5_))
       refine hK.out _ _ ⟨(blk_cell BK212.out 0).trans rfl, (blk_cell BK212.out 1).trans rfl, (blk_cell BK212.out 2).trans rfl, (blk_cell BK212.out 3).trans rfl, (blk_cell BK212.out 4).trans rfl, (blk_cell BK212.out 5).trans rfl⟩ (fun hHeld => ?_)
       clear hK K
       refine norm_ (a' := ?_) ?_ ?_
       rotate_left
       ·show Act.put _ (some 30) _ = _
        simp only [Act.put, sB, i64_w, i32_w]
        rfl
       refine pure_ (i := 12) (N := some 33) (v := ?_) (a' := ?_) #[true, true, true, true, true, true, true, true, true, true, true, true, true, false, false, false] rfl rfl (any_of HT_.out (by kernel_rfl)) (fun _ _ _ h => h) (Or.inl ⟨by rfl, ?_⟩) ?_ ?_
       rotate_left
       ·intro w'
        go_simp
        with_reducible rfl
       rotate_left
       ·simp only [Act.put, sB, i64_w, i32_w]
        rfl
       refine one_ (i := 13) (N := some 34) #[true, true, true, true, true, true, true, true, true, true, true, true, true, true, false, false] rfl rfl (one_of HT_.out (by kernel_rfl)) (by decide) (fun K hK => ?_)
       refine value_ (w1 := ?_) (v := ?_) (by rfl) rfl ?_ ?_
       rotate_left 2
       ·go_simp
        constructor
        ·rfl
        ·rfl
       refine hK.out _ _ ⟨(blk_cell (blk_alloc BK212.out _) 0).trans rfl, (blk_cell (blk_alloc BK212.out _) 1).trans rfl, (blk_cell (blk_alloc BK212.out _) 2).trans rfl, (blk_cell (blk_alloc BK212.out _) 3).trans rfl, (blk_cell (blk_alloc BK212.out _) 4).trans rfl, (blk_cell (blk_alloc BK212.out _) 5).trans rfl⟩ (fun hHeld => ?_)
       clear hK K
       refine norm_ (a' := ?_) ?_ ?_
       rotate_left
       ·show Act.put _ (some 34) _ = _
        simp only [Act.put, sB, i64_w, i32_w]
        rfl
       refine one_ (i := 14) (N := some 35) #[true, true, true, true, true, true, true, true, true, true, true, true, true, true, true, false] rfl rfl (one_of HT_.out (by kernel_rfl)) (by decide) (fun K hK => ?_)
       refine Kd.S_append_step k49 (w0 := w) w.heap.size (by rfl) (.tmp 21) (.tmp 34) 31 49 (.agg #[(.slice none 0 0), (.slice none 0 0), (.slice none 0 0), (.int .u8 0), (.int .u8 0), (.int .u8 0)]) 80 rfl Try.underlying31 info49 rfl (by decide) (by omega) u3 x3_1 (⟨t213, t216, t219, (⟨(rd_T49 l0_3 x17_1).f3.f0, (rd_T49 l0_3 x17_1).f3.f1, (rd_T49 l0_3 x17_1).f3.f2⟩ : S47)⟩ : S49) [.slice Ao33 t213.length co33, .slice Ao32 t216.length co32, .slice Ao31 t219.length co31, .int .u8 ((rd_T49 l0_3 x17_1).f3.f0), .int .u8 ((rd_T49 l0_3 x17_1).f3.f1), .int .u8 ((rd_T49 l0_3 x17_1).f3.f2)] (fun k_ => k_ ≠ gb212) (fun k_ => some k_ = (.slice Ao33 t213.length co33 : Value).ownBlock ∨ some k_ = (.slice Ao32 t216.length co32 : Value).ownBlock ∨ some k_ = (.slice Ao31 t219.length co31 : Value).ownBlock) rfl rfl ?aP (fun k_ hk_ => hk_.elim (fun h_ => ((Kd.R_mono (ok' := fun k_ => ((fun k_ => k_ ≠ gb212)) k_ ∧ some k_ ≠ (u3 : Value).ownBlock) (Kd.R_types (Kd.R_apart' (HO215.out) (Kd.S_typed HO_3.out) (by decide)) BK212.out (by decide)) (fun k_ hk => ⟨hk.2, hk.1.2⟩))).1 k_ h_.symm) (fun h_ => h_.elim (fun h_ => ((Kd.R_mono (ok' := fun k_ => ((fun k_ => k_ ≠ gb212)) k_ ∧ some k_ ≠ (u3 : Value).ownBlock) (Kd.R_types (Kd.R_apart' (HO218.out) (Kd.S_typed HO_3.out) (by decide)) BK212.out (by decide)) (fun k_ hk => ⟨hk.2, hk.1.2⟩))).1 k_ h_.symm) (fun h_ => ((Kd.R_mono (ok' := fun k_ => ((fun k_ => k_ ≠ gb212)) k_ ∧ some k_ ≠ (u3 : Value).ownBlock) (Kd.R_types (Kd.R_apart' (HO221.out) (Kd.S_typed HO_3.out) (by decide)) BK212.out (by decide)) (fun k_ hk => ⟨hk.2, hk.1.2⟩))).1 k_ h_.symm))) ?aF ?aO ?aB ?aS ?aL ?_
       (case aP => exact k49_mkM _ _ _ (⟨t213, t216, t219, (⟨(rd_T49 l0_3 x17_1).f3.f0, (rd_T49 l0_3 x17_1).f3.f1, (rd_T49 l0_3 x17_1).f3.f2⟩ : S47)⟩ : S49) (Kd.R_mono (Kd.R_tight rfl (Kd.R_mono (ok' := fun k_ => ((fun k_ => k_ ≠ gb212)) k_ ∧ some k_ ≠ (u3 : Value).ownBlock) (Kd.R_types (Kd.R_apart' (HO215.out) (Kd.S_typed HO_3.out) (by decide)) BK212.out (by decide)) (fun k_ hk => ⟨hk.2, hk.1.2⟩))) (fun _ h_ => Or.inl h_)) (Kd.R_mono (Kd.R_tight rfl (Kd.R_mono (ok' := fun k_ => ((fun k_ => k_ ≠ gb212)) k_ ∧ some k_ ≠ (u3 : Value).ownBlock) (Kd.R_types (Kd.R_apart' (HO218.out) (Kd.S_typed HO_3.out) (by decide)) BK212.out (by decide)) (fun k_ hk => ⟨hk.2, hk.1.2⟩))) (fun _ h_ => Or.inr (Or.inl h_))) (Kd.R_mono (Kd.R_tight rfl (Kd.R_mono (ok' := fun k_ => ((fun k_ => k_ ≠ gb212)) k_ ∧ some k_ ≠ (u3 : Value).ownBlock) (Kd.R_types (Kd.R_apart' (HO221.out) (Kd.S_typed HO_3.out) (by decide)) BK212.out (by decide)) (fun k_ hk => ⟨hk.2, hk.1.2⟩))) (fun _ h_ => Or.inr (Or.inr (h_)))))
       (case aB => exact (by repeat (first | (with_reducible first | exact HB.out | apply wa | apply wn | apply wd | refine ws ?_ GE203.out | refine ws ?_ GE204.out | refine ws ?_ GE212.out) | exact HB.out)))
       (case aF => exact (fun k_ hk => Kd.freshB (g := gb212) (o := .cells #[.slice A211_0 ((rd_T49 l0_3 x17_1).f0).length c211_0, .slice A211_1 ((rd_T49 l0_3 x17_1).f1).length c211_1, .slice A211_2 ((rd_T49 l0_3 x17_1).f2).length c211_2, .int .u8 ((rd_T49 l0_3 x17_1).f3.f0), .int .u8 ((rd_T49 l0_3 x17_1).f3.f1), .int .u8 ((rd_T49 l0_3 x17_1).f3.f2)] 49 (0, 0)) (by (with_reducible repeat first | apply bn | apply bd | apply ba); exact BK212.out) k_ hk))
       (case aO => exact (by (with_reducible repeat (first | apply Kd.S_alloc | apply Kd.S_drewN | apply Kd.S_drew)); exact Kd.S_mono HO_3.out (fun k_ hk => ⟨hk.1.1.1, fun e_ => e_.elim (fun h_ => hk.1.1.2 h_) (fun h_ => h_.elim (fun h_ => hk.1.2 h_) (fun h_ => hk.2 h_))⟩)))
       (case aS => exact (below_size (by repeat (first | (with_reducible first | exact HB.out | apply wa | apply wn | apply wd | refine ws ?_ GE203.out | refine ws ?_ GE204.out | refine ws ?_ GE212.out) | exact HB.out))))
       (case aL => have := LMc21.out; omega)
       intro v223 w34 ho hb hg hat
       rw [← Ny222.out] at ho
       have n0_ := asd (Kd.R_over' (by (with_reducible repeat (first | apply Kd.R_alloc | apply Kd.R_drewN | apply Kd.R_drew)); exact HO_204002.out) (Kd.S_typed (by (with_reducible repeat (first | apply Kd.S_alloc | apply Kd.S_drewN | apply Kd.S_drew)); exact HO_3.out)) (by decide) hg)
       have n1_ := asd (Kd.R_over' (by (with_reducible repeat (first | apply Kd.R_alloc | apply Kd.R_drewN | apply Kd.R_drew)); exact HO_204004.out) (Kd.S_typed (by (with_reducible repeat (first | apply Kd.S_alloc | apply Kd.S_drewN | apply Kd.S_drew)); exact HO_3.out)) (by decide) hg)
       have n2_ := asd (blk_grown (g := gb203) (o := .cells #[.int .i64 a0_0, .int .i64 a0_1, .slice Ao9 t205.length co9, .slice (some ad211) l0_3.length c0_3, .slice Ao11 t208.length co11] 34 (0, 0)) (by (with_reducible repeat first | apply bn | apply bd | apply ba); exact BK203.out) hg (Kd.S_ne HO_3.out BK203.out (by decide)))
       have n3_ := asd (blk_grown (g := gb204) (o := .cells #[.int .i64 0, .int .i64 0, .slice none 0 0, .slice none 0 0, .slice none 0 0] 34 (0, 0)) (by (with_reducible repeat first | apply bn | apply bd | apply ba); exact BK204.out) hg (Kd.S_ne HO_3.out BK204.out (by decide)))
       have n4_ := asd (blk_grown (g := gb212) (o := .cells #[.slice A211_0 ((rd_T49 l0_3 x17_1).f0).length c211_0, .slice A211_1 ((rd_T49 l0_3 x17_1).f1).length c211_1, .slice A211_2 ((rd_T49 l0_3 x17_1).f2).length c211_2, .int .u8 ((rd_T49 l0_3 x17_1).f3.f0), .int .u8 ((rd_T49 l0_3 x17_1).f3.f1), .int .u8 ((rd_T49 l0_3 x17_1).f3.f2)] 49 (0, 0)) (by (with_reducible repeat first | apply bn | apply bd | apply ba); exact BK212.out) hg (Kd.S_away HO_3.out (fun _ hk => hk.1.1.1)))
       have n5_ := asd (hb)
       have n6_ := asd (ho)
       clear HO_204002
       clear HO_204004
       clear BK203
       clear BK204
       clear BK212
       clear HB
       clear HO_3
       clear HO215
       clear HO218
       clear HO221
       have HO_204002 := n0_
       have HO_204004 := n1_
       have BK203 := n2_
       have BK204 := n3_
       have BK212 := n4_
       have HB := n5_
       have HO224 := n6_
       clear n0_ n1_ n2_ n3_ n4_ n5_ n6_
       clear ho hb hg hat
       refine hK.out _ _ ⟨(blk_cell BK212.out 0).trans rfl, (blk_cell BK212.out 1).trans rfl, (blk_cell BK212.out 2).trans rfl, (blk_cell BK212.out 3).trans rfl, (blk_cell BK212.out 4).trans rfl, (blk_cell BK212.out 5).trans rfl⟩ (fun hHeld => ?_)
       clear hK K
       refine norm_ (a' := ?_) ?_ ?_
       rotate_left
       ·show Act.put _ (some 35) _ = _
        simp only [Act.put, sB, i64_w, i32_w]
        rfl
       refine pure_ (i := 15) (N := some 3) (v := ?_) (a' := ?_) #[true, true, true, true, true, true, true, true, true, true, true, true, true, true, true, true] rfl rfl (any_of HT_.out (by kernel_rfl)) (fun _ _ _ h => h) (Or.inl ⟨by rfl, ?_⟩) ?_ ?_
       rotate_left
       ·intro w'
        go_simp
        with_reducible rfl
       rotate_left
       ·simp only [Act.put, sB, i64_w, i32_w]
        rfl
       refine done_ (done_of HT_.out (by kernel_rfl)) ?_
       try go_wp2
       go_roundg k1
       case measure => have := HK1.out; omega
       case rel => exact ⟨(y222), (wrap64 (x17_1 + 1)), (by first | rfl | (simp; done) | (simp [*]; done)), H', ⟨by have := HK1.out; omega⟩, ⟨by (with_reducible repeat (first | apply Kd.S_alloc | apply Kd.S_drewN | apply Kd.S_drew)); exact Kd.S_mono HO224.out (fun _ hk => trivial)⟩, ⟨by (with_reducible repeat (first | apply Kd.R_alloc | apply Kd.R_drewN | apply Kd.R_drew)); exact HO_204002.out⟩, ⟨by (with_reducible repeat (first | apply Kd.R_alloc | apply Kd.R_drewN | apply Kd.R_drew)); exact HO_204004.out⟩, ⟨by (with_reducible repeat first | apply bn | apply bd | apply ba); exact BK203.out⟩, ⟨by (with_reducible repeat first | apply bn | apply bd | apply ba); exact BK204.out⟩, ⟨by repeat (first | (with_reducible first | exact HB.out | apply wa | apply wn | apply wd | refine ws ?_ GE203.out | refine ws ?_ GE204.out | refine ws ?_ GE212.out) | exact HB.out)⟩⟩
      ·rw [if_neg c21] at H
       exact absurd H (by simp)
     ·rw [if_neg c17] at H
      exact absurd H (by simp)
    ·rw [if_neg c16] at H
     exact absurd H (by simp)
   ·rw [if_neg c15] at H
    have c15b0 : decide (x17_1 < (l0_3.length : Int)) = false := decide_eq_false c15
    clear c15
    simp only [Option.some.injEq, Prod.mk.injEq] at H
    obtain ⟨rfl, rfl, rfl, rfl, rfl⟩ := H
    obtain ⟨Ao35, co35, eo35⟩ := Kd.S_slice HO_3.out
    subst eo35
    have hnb36 := NB203_204.out
    have hnc36 := NB204_203.out
    have hcz37_0 : wr.cell? ⟨gb203, 0, none⟩ = some (.int .i64 a0_0) := (blk_cell BK203.out 0).trans rfl
    have hcz37_1 : wr.cell? ⟨gb203, 1, none⟩ = some (.int .i64 a0_1) := (blk_cell BK203.out 1).trans rfl
    have hcz37_2 : wr.cell? ⟨gb203, 2, none⟩ = some (.slice Ao9 t205.length co9) := (blk_cell BK203.out 2).trans rfl
    have hcz37_3 : wr.cell? ⟨gb203, 3, none⟩ = some (.slice A0_3 l0_3.length c0_3) := (blk_cell BK203.out 3).trans rfl
    have hcz37_4 : wr.cell? ⟨gb203, 4, none⟩ = some (.slice Ao11 t208.length co11) := (blk_cell BK203.out 4).trans rfl
    have hfz37_0 := blk_frozen BK203.out 0
    have hfz37_1 := blk_frozen BK203.out 1
    have hfz37_2 := blk_frozen BK203.out 2
    have hfz37_3 := blk_frozen BK203.out 3
    have hfz37_4 := blk_frozen BK203.out 4
    have hcz38_0 : wr.cell? ⟨gb204, 0, none⟩ = some (.int .i64 0) := (blk_cell BK204.out 0).trans rfl
    have hcz38_1 : wr.cell? ⟨gb204, 1, none⟩ = some (.int .i64 0) := (blk_cell BK204.out 1).trans rfl
    have hcz38_2 : wr.cell? ⟨gb204, 2, none⟩ = some (.slice none 0 0) := (blk_cell BK204.out 2).trans rfl
    have hcz38_3 : wr.cell? ⟨gb204, 3, none⟩ = some (.slice none 0 0) := (blk_cell BK204.out 3).trans rfl
    have hcz38_4 : wr.cell? ⟨gb204, 4, none⟩ = some (.slice none 0 0) := (blk_cell BK204.out 4).trans rfl
    have hfz38_0 := blk_frozen BK204.out 0
    have hfz38_1 := blk_frozen BK204.out 1
    have hfz38_2 := blk_frozen BK204.out 2
    have hfz38_3 := blk_frozen BK204.out 3
    have hfz38_4 := blk_frozen BK204.out 4
    go_wp2
    refine bodyPost_ret (results_cell_row rfl _ _ gb204 34 #[.int .i64 a0_0, .int .i64 a0_1, .slice Ao9 t205.length co9, .slice Ao35 x3_1.length co35, .slice Ao11 t208.length co11] (0, 0) _ rfl (by (with_reducible repeat first | apply bn | apply bd | apply ba); refine blk_put (cs := #[.int .i64 a0_0, .int .i64 a0_1, .slice Ao9 t205.length co9, .slice Ao35 x3_1.length co35, .slice none 0 0]) ?_ 4 _ rfl; (with_reducible repeat first | apply bn | apply bd | apply ba); refine blk_put (cs := #[.int .i64 a0_0, .int .i64 a0_1, .slice Ao9 t205.length co9, .slice none 0 0, .slice none 0 0]) ?_ 3 _ rfl; (with_reducible repeat first | apply bn | apply bd | apply ba); refine blk_put (cs := #[.int .i64 a0_0, .int .i64 a0_1, .slice none 0 0, .slice none 0 0, .slice none 0 0]) ?_ 2 _ rfl; (with_reducible repeat first | apply bn | apply bd | apply ba); refine blk_put (cs := #[.int .i64 a0_0, .int .i64 0, .slice none 0 0, .slice none 0 0, .slice none 0 0]) ?_ 1 _ rfl; (with_reducible repeat first | apply bn | apply bd | apply ba); refine blk_put (cs := #[.int .i64 0, .int .i64 0, .slice none 0 0, .slice none 0 0, .slice none 0 0]) ?_ 0 _ rfl; (with_reducible repeat first | apply bn | apply bd | apply ba); refine blk_far ?_ NB204_203.out _; (with_reducible repeat first | apply bn | apply bd | apply ba); exact BK204.out) Try.underlying34 rfl (by kernel_rfl)) rfl ?_
    exact ⟨_, _, _, by first | rfl | (simp [*] <;> rfl), by (with_reducible repeat (first | apply Kd.R_alloc | apply Kd.R_drewN | apply Kd.R_drew)); exact Kd.R_mono (Kd.R_far (p := ⟨gb204, 4, none⟩) (Kd.R_far (p := ⟨gb204, 3, none⟩) (Kd.R_far (p := ⟨gb204, 2, none⟩) (Kd.R_far (p := ⟨gb204, 1, none⟩) (Kd.R_far (p := ⟨gb204, 0, none⟩) (Kd.R_far (p := ⟨gb203, 3, none⟩) (Kd.R_types (Kd.R_types HO_204002.out BK203.out (by decide)) BK204.out (by decide)) (fun _ hk => hk.1.2) (.slice Ao35 x3_1.length co35)) (fun _ hk => hk.2) (.int .i64 a0_0)) (fun _ hk => hk.2) (.int .i64 a0_1)) (fun _ hk => hk.2) (.slice Ao9 t205.length co9)) (fun _ hk => hk.2) (.slice Ao35 x3_1.length co35)) (fun _ hk => hk.2) (.slice Ao11 t208.length co11)) (fun _ hk => trivial), by (with_reducible repeat (first | apply Kd.S_alloc | apply Kd.S_drewN | apply Kd.S_drew)); exact Kd.S_mono (Kd.S_far (p := ⟨gb204, 4, none⟩) (Kd.S_far (p := ⟨gb204, 3, none⟩) (Kd.S_far (p := ⟨gb204, 2, none⟩) (Kd.S_far (p := ⟨gb204, 1, none⟩) (Kd.S_far (p := ⟨gb204, 0, none⟩) (Kd.S_far (p := ⟨gb203, 3, none⟩) (Kd.S_types (Kd.S_types HO_3.out BK203.out (by decide)) BK204.out (by decide)) (fun _ hk => hk.1.2) (.slice Ao35 x3_1.length co35)) (fun _ hk => hk.2) (.int .i64 a0_0)) (fun _ hk => hk.2) (.int .i64 a0_1)) (fun _ hk => hk.2) (.slice Ao9 t205.length co9)) (fun _ hk => hk.2) (.slice Ao35 x3_1.length co35)) (fun _ hk => hk.2) (.slice Ao11 t208.length co11)) (fun _ hk => trivial), by (with_reducible repeat (first | apply Kd.R_alloc | apply Kd.R_drewN | apply Kd.R_drew)); exact Kd.R_mono (Kd.R_far (p := ⟨gb204, 4, none⟩) (Kd.R_far (p := ⟨gb204, 3, none⟩) (Kd.R_far (p := ⟨gb204, 2, none⟩) (Kd.R_far (p := ⟨gb204, 1, none⟩) (Kd.R_far (p := ⟨gb204, 0, none⟩) (Kd.R_far (p := ⟨gb203, 3, none⟩) (Kd.R_types (Kd.R_types HO_204004.out BK203.out (by decide)) BK204.out (by decide)) (fun _ hk => hk.1.2) (.slice Ao35 x3_1.length co35)) (fun _ hk => hk.2) (.int .i64 a0_0)) (fun _ hk => hk.2) (.int .i64 a0_1)) (fun _ hk => hk.2) (.slice Ao9 t205.length co9)) (fun _ hk => hk.2) (.slice Ao35 x3_1.length co35)) (fun _ hk => hk.2) (.slice Ao11 t208.length co11)) (fun _ hk => trivial), by repeat (first | (with_reducible first | exact HB.out | apply wa | apply wn | apply wd | refine ws ?_ GE203.out | refine ws ?_ GE204.out) | exact HB.out)⟩
end Go.Proofs.Ytmjhnmdmopmfjaa.Fn
namespace Go.Proofs.Ytmjhnmdmopmfjaa.Fn
open Go.RowKit Go.Proofs.YtmjhnmdmopmfjaaW.PrintWords Go.Proofs.YtmjhnmdmopmfjaaW.PrintLast Go.Proofs.YtmjhnmdmopmfjaaW.PrintMore
attribute [local go_sem] max2_int min2_int max_two min_two max_three min_three max_four min_four
set_option linter.unusedVariables false
set_option linter.unusedSimpArgs false
theorem eqA77 (d : Nat) (w : World) (x0 y0 : Int) (x1 y1 : Int) (x2 y2 : Int) :
  (Op.equalIn (d + 2) 77 (.agg #[.int .i64 x0, .int .i64 x1, .int .i64 x2]) (.agg #[.int .i64 y0, .int .i64 y1, .int .i64 y2])).run Try.prog w = .ok (x0 == y0 && (x1 == y1 && (x2 == y2))) w := by
 refine eqA_of Try.underlying77 (by kernel_rfl) ?_
 refine eqf_cons (by rfl) (by go_simp; rfl) (by go_simp; rfl) (by go_simp) ?_
 refine eqf_cons (by rfl) (by go_simp; rfl) (by go_simp; rfl) (by go_simp) ?_
 exact eqf_last (by rfl) (by go_simp; rfl) (by go_simp; rfl) (by go_simp)
end Go.Proofs.Ytmjhnmdmopmfjaa.Fn
namespace Go.Proofs.Ytmjhnmdmopmfjaa.Fn
open Go.RowKit Go.Proofs.YtmjhnmdmopmfjaaW.PrintWords Go.Proofs.YtmjhnmdmopmfjaaW.PrintLast Go.Proofs.YtmjhnmdmopmfjaaW.PrintMore
attribute [local go_sem] max2_int min2_int max_two min_two max_three min_three max_four min_four
set_option linter.unusedVariables false
set_option linter.unusedSimpArgs false
theorem eqA78 (d : Nat) (w : World) (x0 y0 : Bool) (x1 y1 : Int) (x2 y2 : Int) (x3 y3 : Int) :
  (Op.equalIn (d + 2) 78 (.agg #[.bool x0, .int .i64 x1, .int .i64 x2, .int .i64 x3]) (.agg #[.bool y0, .int .i64 y1, .int .i64 y2, .int .i64 y3])).run Try.prog w = .ok (x0 == y0 && (x1 == y1 && (x2 == y2 && (x3 == y3)))) w := by
 refine eqA_of Try.underlying78 (by kernel_rfl) ?_
 refine eqf_cons (by rfl) (by go_simp; rfl) (by go_simp; rfl) (by go_simp) ?_
 refine eqf_cons (by rfl) (by go_simp; rfl) (by go_simp; rfl) (by go_simp) ?_
 refine eqf_cons (by rfl) (by go_simp; rfl) (by go_simp; rfl) (by go_simp) ?_
 exact eqf_last (by rfl) (by go_simp; rfl) (by go_simp; rfl) (by go_simp)
end Go.Proofs.Ytmjhnmdmopmfjaa.Fn
namespace Go.Proofs.Ytmjhnmdmopmfjaa.Fn
open Go.RowKit Go.Proofs.YtmjhnmdmopmfjaaW.PrintWords Go.Proofs.YtmjhnmdmopmfjaaW.PrintLast Go.Proofs.YtmjhnmdmopmfjaaW.PrintMore
attribute [local go_sem] max2_int min2_int max_two min_two max_three min_three max_four min_four
set_option linter.unusedVariables false
set_option linter.unusedSimpArgs false
theorem eqA47 (d : Nat) (w : World) (x0 y0 x1 y1 x2 y2 : Int) :
  (Op.equalIn (d + 2) 47 (.agg #[.int .u8 x0, .int .u8 x1, .int .u8 x2]) (.agg #[.int .u8 y0, .int .u8 y1, .int .u8 y2])).run Try.prog w = .ok (x0 == y0 && (x1 == y1 && (x2 == y2))) w := by
 rw [Op.equalIn]
 have h5 := Try.underlying5
 have h47 := Try.underlying47
 by_cases e0 : x0 = y0 <;> by_cases e1 : x1 = y1 <;> by_cases e2 : x2 = y2 <;>
 (simp [run_underlying h47, go_sem, Std.Legacy.Range.forIn_eq_forIn_range', Std.Legacy.Range.size, List.range', e0, e1, e2])
end Go.Proofs.Ytmjhnmdmopmfjaa.Fn
namespace Go.Proofs.Ytmjhnmdmopmfjaa.Fn
open Go.RowKit Go.Proofs.YtmjhnmdmopmfjaaW.PrintWords Go.Proofs.YtmjhnmdmopmfjaaW.PrintLast Go.Proofs.YtmjhnmdmopmfjaaW.PrintMore
attribute [local go_sem] max2_int min2_int max_two min_two max_three min_three max_four min_four
set_option linter.unusedVariables false
set_option linter.unusedSimpArgs false
theorem eqA56 (d : Nat) (w : World) (x0 y0 : Bool) (x1 y1 : Int) (x2 y2 : Int) (x3 y3 : Int) (x4 y4 : Int) (x5 y5 : Int) :
  (Op.equalIn (d + 2) 56 (.agg #[.bool x0, .int .i64 x1, .int .i64 x2, .int .i64 x3, .int .i64 x4, .int .i64 x5]) (.agg #[.bool y0, .int .i64 y1, .int .i64 y2, .int .i64 y3, .int .i64 y4, .int .i64 y5])).run Try.prog w = .ok (x0 == y0 && (x1 == y1 && (x2 == y2 && (x3 == y3 && (x4 == y4 && (x5 == y5)))))) w := by
 refine eqA_of Try.underlying56 (by kernel_rfl) ?_
 refine eqf_cons (by rfl) (by go_simp; rfl) (by go_simp; rfl) (by go_simp) ?_
 refine eqf_cons (by rfl) (by go_simp; rfl) (by go_simp; rfl) (by go_simp) ?_
 refine eqf_cons (by rfl) (by go_simp; rfl) (by go_simp; rfl) (by go_simp) ?_
 refine eqf_cons (by rfl) (by go_simp; rfl) (by go_simp; rfl) (by go_simp) ?_
 refine eqf_cons (by rfl) (by go_simp; rfl) (by go_simp; rfl) (by go_simp) ?_
 exact eqf_last (by rfl) (by go_simp; rfl) (by go_simp; rfl) (by go_simp)
end Go.Proofs.Ytmjhnmdmopmfjaa.Fn
namespace Go.Proofs.Ytmjhnmdmopmfjaa.Fn
open Go.RowKit Go.Proofs.YtmjhnmdmopmfjaaW.PrintWords Go.Proofs.YtmjhnmdmopmfjaaW.PrintLast Go.Proofs.YtmjhnmdmopmfjaaW.PrintMore
attribute [local go_sem] max2_int min2_int max_two min_two max_three min_three max_four min_four
set_option linter.unusedVariables false
set_option linter.unusedSimpArgs false
theorem eqA57 (d : Nat) (w : World) (x0 y0 : Bool) (x1 y1 : Int) (x2 y2 : Int) :
  (Op.equalIn (d + 2) 57 (.agg #[.bool x0, .int .i64 x1, .int .i64 x2]) (.agg #[.bool y0, .int .i64 y1, .int .i64 y2])).run Try.prog w = .ok (x0 == y0 && (x1 == y1 && (x2 == y2))) w := by
 refine eqA_of Try.underlying57 (by kernel_rfl) ?_
 refine eqf_cons (by rfl) (by go_simp; rfl) (by go_simp; rfl) (by go_simp) ?_
 refine eqf_cons (by rfl) (by go_simp; rfl) (by go_simp; rfl) (by go_simp) ?_
 exact eqf_last (by rfl) (by go_simp; rfl) (by go_simp; rfl) (by go_simp)
end Go.Proofs.Ytmjhnmdmopmfjaa.Fn
namespace Go.Proofs.Ytmjhnmdmopmfjaa.Fn
open Go.RowKit Go.Proofs.YtmjhnmdmopmfjaaW.PrintWords Go.Proofs.YtmjhnmdmopmfjaaW.PrintLast Go.Proofs.YtmjhnmdmopmfjaaW.PrintMore
attribute [local go_sem] max2_int min2_int max_two min_two max_three min_three max_four min_four
set_option linter.unusedVariables false
set_option linter.unusedSimpArgs false
attribute [local go_sem high] eqA47 eqA56 eqA57
mutual
def parcloseref03_samePart.j0 : Nat → Bool → List (S56) → List (S57) → List Int → Int → Int → Int → List (S56) → List (S57) → List Int → Int → Int → Int → Option (Bool)
 | 0, _, _, _, _, _, _, _, _, _, _, _, _, _ => none
 | k + 1, x39, x226000, x226001, x226002, x226003, x226004, x226005, x227000, x227001, x227002, x227003, x227004, x227005 => if x39 = true then (some false) else (parcloseref03_samePart.l0 k 0 x226000 x226001 x226002 x226003 x226004 x226005 x227000 x227001 x227002 x227003 x227004 x227005)
def parcloseref03_samePart.l0 : Nat → Int → List (S56) → List (S57) → List Int → Int → Int → Int → List (S56) → List (S57) → List Int → Int → Int → Int → Option (Bool)
 | 0, _, _, _, _, _, _, _, _, _, _, _, _, _ => none
 | k + 1, x5, x226000, x226001, x226002, x226003, x226004, x226005, x227000, x227001, x227002, x227003, x227004, x227005 => if x5 < (x226000.length : Int) then (if 0 ≤ x5 then (if x5 < (x227000.length : Int) then (if (!(((rd_T56 x226000 x5).f0) == ((rd_T56 x227000 x5).f0)) || (!(((rd_T56 x226000 x5).f1) == ((rd_T56 x227000 x5).f1)) || (!(((rd_T56 x226000 x5).f2) == ((rd_T56 x227000 x5).f2)) || (!(((rd_T56 x226000 x5).f3) == ((rd_T56 x227000 x5).f3)) || (!(((rd_T56 x226000 x5).f4) == ((rd_T56 x227000 x5).f4)) || (!(((rd_T56 x226000 x5).f5) == ((rd_T56 x227000 x5).f5)))))))) = true then (some false) else (parcloseref03_samePart.l0 k (wrap64 (x5 + 1)) x226000 x226001 x226002 x226003 x226004 x226005 x227000 x227001 x227002 x227003 x227004 x227005)) else (none)) else (none)) else (parcloseref03_samePart.l1 k 0 x226000 x226001 x226002 x226003 x226004 x226005 x227000 x227001 x227002 x227003 x227004 x227005)
def parcloseref03_samePart.l1 : Nat → Int → List (S56) → List (S57) → List Int → Int → Int → Int → List (S56) → List (S57) → List Int → Int → Int → Int → Option (Bool)
 | 0, _, _, _, _, _, _, _, _, _, _, _, _, _ => none
 | k + 1, x6, x226000, x226001, x226002, x226003, x226004, x226005, x227000, x227001, x227002, x227003, x227004, x227005 => if x6 < (x226001.length : Int) then (if 0 ≤ x6 then (if x6 < (x227001.length : Int) then (if (!(((rd_T57 x226001 x6).f0) == ((rd_T57 x227001 x6).f0)) || (!(((rd_T57 x226001 x6).f1) == ((rd_T57 x227001 x6).f1)) || (!(((rd_T57 x226001 x6).f2) == ((rd_T57 x227001 x6).f2))))) = true then (some false) else (parcloseref03_samePart.l1 k (wrap64 (x6 + 1)) x226000 x226001 x226002 x226003 x226004 x226005 x227000 x227001 x227002 x227003 x227004 x227005)) else (none)) else (none)) else (parcloseref03_samePart.l2 k 0 x226000 x226001 x226002 x226003 x226004 x226005 x227000 x227001 x227002 x227003 x227004 x227005)
def parcloseref03_samePart.l2 : Nat → Int → List (S56) → List (S57) → List Int → Int → Int → Int → List (S56) → List (S57) → List Int → Int → Int → Int → Option (Bool)
 | 0, _, _, _, _, _, _, _, _, _, _, _, _, _ => none
 | k + 1, x7, x226000, x226001, x226002, x226003, x226004, x226005, x227000, x227001, x227002, x227003, x227004, x227005 => if x7 < (x226002.length : Int) then (if 0 ≤ x7 then (if x7 < (x227002.length : Int) then (if (rd x226002 x7) = (rd x227002 x7) then (parcloseref03_samePart.l2 k (wrap64 (x7 + 1)) x226000 x226001 x226002 x226003 x226004 x226005 x227000 x227001 x227002 x227003 x227004 x227005) else (some false)) else (none)) else (none)) else (some true)
end
def parcloseref03_samePart.f (k : Nat) (l0_0 : List (S56)) (l0_1 : List (S57)) (l0_2 : List Int) (a0_3 : Int) (a0_4 : Int) (a0_5 : Int) (l1_0 : List (S56)) (l1_1 : List (S57)) (l1_2 : List Int) (a1_3 : Int) (a1_4 : Int) (a1_5 : Int) : Option (Bool) := if (l0_0.length : Int) = (l1_0.length : Int) then (if (l0_1.length : Int) = (l1_1.length : Int) then (if (l0_2.length : Int) = (l1_2.length : Int) then (parcloseref03_samePart.j0 k (!(a0_3 == a1_3) || (!(a0_4 == a1_4) || (!(a0_5 == a1_5)))) l0_0 l0_1 l0_2 a0_3 a0_4 a0_5 l1_0 l1_1 l1_2 a1_3 a1_4 a1_5) else (parcloseref03_samePart.j0 k true l0_0 l0_1 l0_2 a0_3 a0_4 a0_5 l1_0 l1_1 l1_2 a1_3 a1_4 a1_5)) else (parcloseref03_samePart.j0 k true l0_0 l0_1 l0_2 a0_3 a0_4 a0_5 l1_0 l1_1 l1_2 a1_3 a1_4 a1_5)) else (parcloseref03_samePart.j0 k true l0_0 l0_1 l0_2 a0_3 a0_4 a0_5 l1_0 l1_1 l1_2 a1_3 a1_4 a1_5)
set_option maxHeartbeats 8000000 in
set_option maxRecDepth 100000 in
theorem parcloseref03_samePart.calls (k : Nat) (A0_0 : Option Addr) (c0_0 : Nat) (l0_0 : List (S56)) (A0_1 : Option Addr) (c0_1 : Nat) (l0_1 : List (S57)) (A0_2 : Option Addr) (c0_2 : Nat) (l0_2 : List Int) (a0_3 : Int) (a0_4 : Int) (a0_5 : Int) (A1_0 : Option Addr) (c1_0 : Nat) (l1_0 : List (S56)) (A1_1 : Option Addr) (c1_1 : Nat) (l1_1 : List (S57)) (A1_2 : Option Addr) (c1_2 : Nat) (l1_2 : List Int) (a1_3 : Int) (a1_4 : Int) (a1_5 : Int) (r : Bool) (w : World) (hr0_0 : Kd.C k56 w A0_0 l0_0.length l0_0) (hc0_0 : l0_0.length ≤ c0_0) (hr0_1 : Kd.C k57 w A0_1 l0_1.length l0_1) (hc0_1 : l0_1.length ≤ c0_1) (hr0_2 : Kd.C (Kd.int .i64) w A0_2 l0_2.length l0_2) (hc0_2 : l0_2.length ≤ c0_2) (hr1_0 : Kd.C k56 w A1_0 l1_0.length l1_0) (hc1_0 : l1_0.length ≤ c1_0) (hr1_1 : Kd.C k57 w A1_1 l1_1.length l1_1) (hc1_1 : l1_1.length ≤ c1_1) (hr1_2 : Kd.C (Kd.int .i64) w A1_2 l1_2.length l1_2) (hc1_2 : l1_2.length ≤ c1_2) (h : parcloseref03_samePart.f k l0_0 l0_1 l0_2 a0_3 a0_4 a0_5 l1_0 l1_1 l1_2 a1_3 a1_4 a1_5 = some r) :
  Calls Try.prog 55 #[.agg #[.slice A0_0 l0_0.length c0_0, .slice A0_1 l0_1.length c0_1, .slice A0_2 l0_2.length c0_2, .int .u8 a0_3, .int .u8 a0_4, .int .u8 a0_5], .agg #[.slice A1_0 l1_0.length c1_0, .slice A1_1 l1_1.length c1_1, .slice A1_2 l1_2.length c1_2, .int .u8 a1_3, .int .u8 a1_4, .int .u8 a1_5]] w fun e w' => e = .returned (.bool r) ∧ Below w.heap.size w w' := by
 have hu61 := Try.underlying61
 have hu47 := Try.underlying47
 have hu56 := Try.underlying56
 have hu57 := Try.underlying57
 have HR0_0 := asd hr0_0
 have HC0_0 := asd hc0_0
 clear hr0_0 hc0_0
 have HR0_1 := asd hr0_1
 have HC0_1 := asd hc0_1
 clear hr0_1 hc0_1
 have HR0_2 := asd hr0_2
 have HC0_2 := asd hc0_2
 clear hr0_2 hc0_2
 have HR1_0 := asd hr1_0
 have HC1_0 := asd hc1_0
 clear hr1_0 hc1_0
 have HR1_1 := asd hr1_1
 have HC1_1 := asd hc1_1
 clear hr1_1 hc1_1
 have HR1_2 := asd hr1_2
 have HC1_2 := asd hc1_2
 clear hr1_2 hc1_2
 have HB := asd (Below.refl w.heap.size w)
 have H : (if (l0_0.length : Int) = (l1_0.length : Int) then (if (l0_1.length : Int) = (l1_1.length : Int) then (if (l0_2.length : Int) = (l1_2.length : Int) then (parcloseref03_samePart.j0 k (!(a0_3 == a1_3) || (!(a0_4 == a1_4) || (!(a0_5 == a1_5)))) l0_0 l0_1 l0_2 a0_3 a0_4 a0_5 l1_0 l1_1 l1_2 a1_3 a1_4 a1_5) else (parcloseref03_samePart.j0 k true l0_0 l0_1 l0_2 a0_3 a0_4 a0_5 l1_0 l1_1 l1_2 a1_3 a1_4 a1_5)) else (parcloseref03_samePart.j0 k true l0_0 l0_1 l0_2 a0_3 a0_4 a0_5 l1_0 l1_1 l1_2 a1_3 a1_4 a1_5)) else (parcloseref03_samePart.j0 k true l0_0 l0_1 l0_2 a0_3 a0_4 a0_5 l1_0 l1_1 l1_2 a1_3 a1_4 a1_5)) = some r := h
 clear h
 have HC3 := asd H
 clear H
 go_enter Try.func55, Try.ntmps55
 go_upto_region 1 with (first | ((with_reducible refine gate_dst (N := 2) rfl ?_); (try (refine gate_guard (by rfl) ?_; dsimp only)); refine box_event ?hg (N := 2) ?hd (cs := #[.slice A0_0 l0_0.length c0_0, .slice A0_1 l0_1.length c0_1, .slice A0_2 l0_2.length c0_2, .int .u8 a0_3, .int .u8 a0_4, .int .u8 a0_5]) (t := 61) ?hr ?_; (case hd => rfl); (case hg => rfl); (case hr => first | (go_simp; done) | (go_simp; rfl)); intro gb225 hg w4 hbox hb; have n0_ := asd (below_step (by repeat (first | (with_reducible first | exact HB.out | apply wa | apply wn | apply wd) | exact HB.out)) hb); have n1_ := asd (hbox); have n2_ := asd ((by rw [hg]; exact (below_size (by repeat (first | (with_reducible first | exact HB.out | apply wa | apply wn | apply wd) | exact HB.out))) : w.heap.size ≤ gb225)); have n3_ := asd ((by rw [hg]; exact (below_size (by repeat (first | (with_reducible first | exact HB.out | apply wa | apply wn | apply wd) | exact HB.out))) : w.heap.size ≤ gb225)); clear HB; have HB := n0_; have BK225 := n1_; have GW225 := n2_; have GE225 := n3_; clear n0_ n1_ n2_ n3_; clear hb hbox hg) | ((with_reducible refine gate_dst (N := 3) rfl ?_); (try (refine gate_guard (by rfl) ?_; dsimp only)); refine box_event ?hg (N := 3) ?hd (cs := #[.slice A1_0 l1_0.length c1_0, .slice A1_1 l1_1.length c1_1, .slice A1_2 l1_2.length c1_2, .int .u8 a1_3, .int .u8 a1_4, .int .u8 a1_5]) (t := 61) ?hr ?_; (case hd => rfl); (case hg => rfl); (case hr => first | (go_simp; done) | (go_simp; rfl)); intro gb226 hg w5 hbox hb; have n0_ := asd (blk_below (g := gb225) (o := .cells #[.slice A0_0 l0_0.length c0_0, .slice A0_1 l0_1.length c0_1, .slice A0_2 l0_2.length c0_2, .int .u8 a0_3, .int .u8 a0_4, .int .u8 a0_5] 61 (0, 0)) (by (with_reducible repeat first | apply bn | apply bd | apply ba); exact BK225.out) hb); have n1_ := asd (below_step (by repeat (first | (with_reducible first | exact HB.out | apply wa | apply wn | apply wd | refine ws ?_ GE225.out) | exact HB.out)) hb); have n2_ := asd (hbox); have n3_ := asd ((by rw [hg]; exact (below_size (by repeat (first | (with_reducible first | exact HB.out | apply wa | apply wn | apply wd | refine ws ?_ GE225.out) | exact HB.out))) : w.heap.size ≤ gb226)); have n4_ := asd ((by rw [hg]; exact (below_size (by repeat (first | (with_reducible first | exact HB.out | apply wa | apply wn | apply wd | refine ws ?_ GE225.out) | exact HB.out))) : w.heap.size ≤ gb226)); have n5_ := asd ((by rw [hg]; exact Nat.ne_of_lt (blk_lt (g := gb225) (o := .cells #[.slice A0_0 l0_0.length c0_0, .slice A0_1 l0_1.length c0_1, .slice A0_2 l0_2.length c0_2, .int .u8 a0_3, .int .u8 a0_4, .int .u8 a0_5] 61 (0, 0)) (by (with_reducible repeat first | apply bn | apply bd | apply ba); exact BK225.out)) : gb225 ≠ gb226)); have n6_ := asd ((by rw [hg]; exact Nat.ne_of_gt (blk_lt (g := gb225) (o := .cells #[.slice A0_0 l0_0.length c0_0, .slice A0_1 l0_1.length c0_1, .slice A0_2 l0_2.length c0_2, .int .u8 a0_3, .int .u8 a0_4, .int .u8 a0_5] 61 (0, 0)) (by (with_reducible repeat first | apply bn | apply bd | apply ba); exact BK225.out)) : gb226 ≠ gb225)); clear BK225; clear HB; have BK225 := n0_; have HB := n1_; have BK226 := n2_; have GW226 := n3_; have GE226 := n4_; have NB225_226 := n5_; have NB226_225 := n6_; clear n0_ n1_ n2_ n3_ n4_ n5_ n6_; clear hb hbox hg))
 repeat (go_quiet (first | ((with_reducible refine gate_dst (N := 2) rfl ?_); (try (refine gate_guard (by rfl) ?_; dsimp only)); refine box_event ?hg (N := 2) ?hd (cs := #[.slice A0_0 l0_0.length c0_0, .slice A0_1 l0_1.length c0_1, .slice A0_2 l0_2.length c0_2, .int .u8 a0_3, .int .u8 a0_4, .int .u8 a0_5]) (t := 61) ?hr ?_; (case hd => rfl); (case hg => rfl); (case hr => first | (go_simp; done) | (go_simp; rfl)); intro gb225 hg w4 hbox hb; have n0_ := asd (below_step (by repeat (first | (with_reducible first | exact HB.out | apply wa | apply wn | apply wd) | exact HB.out)) hb); have n1_ := asd (hbox); have n2_ := asd ((by rw [hg]; exact (below_size (by repeat (first | (with_reducible first | exact HB.out | apply wa | apply wn | apply wd) | exact HB.out))) : w.heap.size ≤ gb225)); have n3_ := asd ((by rw [hg]; exact (below_size (by repeat (first | (with_reducible first | exact HB.out | apply wa | apply wn | apply wd) | exact HB.out))) : w.heap.size ≤ gb225)); clear HB; have HB := n0_; have BK225 := n1_; have GW225 := n2_; have GE225 := n3_; clear n0_ n1_ n2_ n3_; clear hb hbox hg) | ((with_reducible refine gate_dst (N := 3) rfl ?_); (try (refine gate_guard (by rfl) ?_; dsimp only)); refine box_event ?hg (N := 3) ?hd (cs := #[.slice A1_0 l1_0.length c1_0, .slice A1_1 l1_1.length c1_1, .slice A1_2 l1_2.length c1_2, .int .u8 a1_3, .int .u8 a1_4, .int .u8 a1_5]) (t := 61) ?hr ?_; (case hd => rfl); (case hg => rfl); (case hr => first | (go_simp; done) | (go_simp; rfl)); intro gb226 hg w5 hbox hb; have n0_ := asd (blk_below (g := gb225) (o := .cells #[.slice A0_0 l0_0.length c0_0, .slice A0_1 l0_1.length c0_1, .slice A0_2 l0_2.length c0_2, .int .u8 a0_3, .int .u8 a0_4, .int .u8 a0_5] 61 (0, 0)) (by (with_reducible repeat first | apply bn | apply bd | apply ba); exact BK225.out) hb); have n1_ := asd (below_step (by repeat (first | (with_reducible first | exact HB.out | apply wa | apply wn | apply wd | refine ws ?_ GE225.out) | exact HB.out)) hb); have n2_ := asd (hbox); have n3_ := asd ((by rw [hg]; exact (below_size (by repeat (first | (with_reducible first | exact HB.out | apply wa | apply wn | apply wd | refine ws ?_ GE225.out) | exact HB.out))) : w.heap.size ≤ gb226)); have n4_ := asd ((by rw [hg]; exact (below_size (by repeat (first | (with_reducible first | exact HB.out | apply wa | apply wn | apply wd | refine ws ?_ GE225.out) | exact HB.out))) : w.heap.size ≤ gb226)); have n5_ := asd ((by rw [hg]; exact Nat.ne_of_lt (blk_lt (g := gb225) (o := .cells #[.slice A0_0 l0_0.length c0_0, .slice A0_1 l0_1.length c0_1, .slice A0_2 l0_2.length c0_2, .int .u8 a0_3, .int .u8 a0_4, .int .u8 a0_5] 61 (0, 0)) (by (with_reducible repeat first | apply bn | apply bd | apply ba); exact BK225.out)) : gb225 ≠ gb226)); have n6_ := asd ((by rw [hg]; exact Nat.ne_of_gt (blk_lt (g := gb225) (o := .cells #[.slice A0_0 l0_0.length c0_0, .slice A0_1 l0_1.length c0_1, .slice A0_2 l0_2.length c0_2, .int .u8 a0_3, .int .u8 a0_4, .int .u8 a0_5] 61 (0, 0)) (by (with_reducible repeat first | apply bn | apply bd | apply ba); exact BK225.out)) : gb226 ≠ gb225)); clear BK225; clear HB; have BK225 := n0_; have HB := n1_; have BK226 := n2_; have GW226 := n3_; have GE226 := n4_; have NB225_226 := n5_; have NB226_225 := n6_; clear n0_ n1_ n2_ n3_ n4_ n5_ n6_; clear hb hbox hg)); go_upto_region 1 with (first | ((with_reducible refine gate_dst (N := 2) rfl ?_); (try (refine gate_guard (by rfl) ?_; dsimp only)); refine box_event ?hg (N := 2) ?hd (cs := #[.slice A0_0 l0_0.length c0_0, .slice A0_1 l0_1.length c0_1, .slice A0_2 l0_2.length c0_2, .int .u8 a0_3, .int .u8 a0_4, .int .u8 a0_5]) (t := 61) ?hr ?_; (case hd => rfl); (case hg => rfl); (case hr => first | (go_simp; done) | (go_simp; rfl)); intro gb225 hg w4 hbox hb; have n0_ := asd (below_step (by repeat (first | (with_reducible first | exact HB.out | apply wa | apply wn | apply wd) | exact HB.out)) hb); have n1_ := asd (hbox); have n2_ := asd ((by rw [hg]; exact (below_size (by repeat (first | (with_reducible first | exact HB.out | apply wa | apply wn | apply wd) | exact HB.out))) : w.heap.size ≤ gb225)); have n3_ := asd ((by rw [hg]; exact (below_size (by repeat (first | (with_reducible first | exact HB.out | apply wa | apply wn | apply wd) | exact HB.out))) : w.heap.size ≤ gb225)); clear HB; have HB := n0_; have BK225 := n1_; have GW225 := n2_; have GE225 := n3_; clear n0_ n1_ n2_ n3_; clear hb hbox hg) | ((with_reducible refine gate_dst (N := 3) rfl ?_); (try (refine gate_guard (by rfl) ?_; dsimp only)); refine box_event ?hg (N := 3) ?hd (cs := #[.slice A1_0 l1_0.length c1_0, .slice A1_1 l1_1.length c1_1, .slice A1_2 l1_2.length c1_2, .int .u8 a1_3, .int .u8 a1_4, .int .u8 a1_5]) (t := 61) ?hr ?_; (case hd => rfl); (case hg => rfl); (case hr => first | (go_simp; done) | (go_simp; rfl)); intro gb226 hg w5 hbox hb; have n0_ := asd (blk_below (g := gb225) (o := .cells #[.slice A0_0 l0_0.length c0_0, .slice A0_1 l0_1.length c0_1, .slice A0_2 l0_2.length c0_2, .int .u8 a0_3, .int .u8 a0_4, .int .u8 a0_5] 61 (0, 0)) (by (with_reducible repeat first | apply bn | apply bd | apply ba); exact BK225.out) hb); have n1_ := asd (below_step (by repeat (first | (with_reducible first | exact HB.out | apply wa | apply wn | apply wd | refine ws ?_ GE225.out) | exact HB.out)) hb); have n2_ := asd (hbox); have n3_ := asd ((by rw [hg]; exact (below_size (by repeat (first | (with_reducible first | exact HB.out | apply wa | apply wn | apply wd | refine ws ?_ GE225.out) | exact HB.out))) : w.heap.size ≤ gb226)); have n4_ := asd ((by rw [hg]; exact (below_size (by repeat (first | (with_reducible first | exact HB.out | apply wa | apply wn | apply wd | refine ws ?_ GE225.out) | exact HB.out))) : w.heap.size ≤ gb226)); have n5_ := asd ((by rw [hg]; exact Nat.ne_of_lt (blk_lt (g := gb225) (o := .cells #[.slice A0_0 l0_0.length c0_0, .slice A0_1 l0_1.length c0_1, .slice A0_2 l0_2.length c0_2, .int .u8 a0_3, .int .u8 a0_4, .int .u8 a0_5] 61 (0, 0)) (by (with_reducible repeat first | apply bn | apply bd | apply ba); exact BK225.out)) : gb225 ≠ gb226)); have n6_ := asd ((by rw [hg]; exact Nat.ne_of_gt (blk_lt (g := gb225) (o := .cells #[.slice A0_0 l0_0.length c0_0, .slice A0_1 l0_1.length c0_1, .slice A0_2 l0_2.length c0_2, .int .u8 a0_3, .int .u8 a0_4, .int .u8 a0_5] 61 (0, 0)) (by (with_reducible repeat first | apply bn | apply bd | apply ba); exact BK225.out)) : gb226 ≠ gb225)); clear BK225; clear HB; have BK225 := n0_; have HB := n1_; have BK226 := n2_; have GW226 := n3_; have GE226 := n4_; have NB225_226 := n5_; have NB226_225 := n6_; clear n0_ n1_ n2_ n3_ n4_ n5_ n6_; clear hb hbox hg)))
 (try simp only [Act.put, sB])
 go_cut [39] (fun v39 wc => ∃ (kq : Nat) (x39_2 : Bool), v39 = .bool x39_2 ∧ Aside0 (parcloseref03_samePart.j0 kq x39_2 l0_0 l0_1 l0_2 a0_3 a0_4 a0_5 l1_0 l1_1 l1_2 a1_3 a1_4 a1_5 = some r) ∧ Aside0 (kq ≤ k) ∧ Aside0 (wc.heap[gb225]? = some (.cells #[(.slice A0_0 l0_0.length c0_0), (.slice A0_1 l0_1.length c0_1), (.slice A0_2 l0_2.length c0_2), .int .u8 a0_3, .int .u8 a0_4, .int .u8 a0_5] 61 (0, 0))) ∧ Aside0 (wc.heap[gb226]? = some (.cells #[(.slice A1_0 l1_0.length c1_0), (.slice A1_1 l1_1.length c1_1), (.slice A1_2 l1_2.length c1_2), .int .u8 a1_3, .int .u8 a1_4, .int .u8 a1_5] 61 (0, 0))) ∧ Aside0 (Below w.heap.size w wc))
 case first =>
  have H := HC3.out
  clear HC3
  by_cases c6 : (l0_0.length : Int) = (l1_0.length : Int)
  ·rw [if_pos c6] at H
   have c6b0 : ((l0_0.length : Int) == (l1_0.length : Int)) = true := beq_iff_eq.mpr c6
   have c6b1 : ((l0_0.length : Int) != (l1_0.length : Int)) = false := bne_eq_false_iff_eq.mpr c6
   have c6b2 : (l0_0.length == l1_0.length) = true := by first | simpa using c6 | (simp at c6 ⊢; omega)
   clear c6
   (first | rw [c6b0] | (simp only [i64_w, i32_w]; rw [c6b0]) | skip)
   by_cases c7 : (l0_1.length : Int) = (l1_1.length : Int)
   ·rw [if_pos c7] at H
    have c7b0 : ((l0_1.length : Int) == (l1_1.length : Int)) = true := beq_iff_eq.mpr c7
    have c7b1 : ((l0_1.length : Int) != (l1_1.length : Int)) = false := bne_eq_false_iff_eq.mpr c7
    have c7b2 : (l0_1.length == l1_1.length) = true := by first | simpa using c7 | (simp at c7 ⊢; omega)
    clear c7
    by_cases c8 : (l0_2.length : Int) = (l1_2.length : Int)
    ·rw [if_pos c8] at H
     have c8b0 : ((l0_2.length : Int) == (l1_2.length : Int)) = true := beq_iff_eq.mpr c8
     have c8b1 : ((l0_2.length : Int) != (l1_2.length : Int)) = false := bne_eq_false_iff_eq.mpr c8
     have c8b2 : (l0_2.length == l1_2.length) = true := by first | simpa using c8 | (simp at c8 ⊢; omega)
     clear c8
     have H' := asd H
     clear H
     have hnb9 := NB225_226.out
     have hnc9 := NB226_225.out
     have hcz10_0 : w5.cell? ⟨gb225, 0, none⟩ = some (.slice A0_0 l0_0.length c0_0) := (blk_cell BK225.out 0).trans rfl
     have hcz10_1 : w5.cell? ⟨gb225, 1, none⟩ = some (.slice A0_1 l0_1.length c0_1) := (blk_cell BK225.out 1).trans rfl
     have hcz10_2 : w5.cell? ⟨gb225, 2, none⟩ = some (.slice A0_2 l0_2.length c0_2) := (blk_cell BK225.out 2).trans rfl
     have hcz10_3 : w5.cell? ⟨gb225, 3, none⟩ = some (.int .u8 a0_3) := (blk_cell BK225.out 3).trans rfl
     have hcz10_4 : w5.cell? ⟨gb225, 4, none⟩ = some (.int .u8 a0_4) := (blk_cell BK225.out 4).trans rfl
     have hcz10_5 : w5.cell? ⟨gb225, 5, none⟩ = some (.int .u8 a0_5) := (blk_cell BK225.out 5).trans rfl
     have hfz10_0 := blk_frozen BK225.out 0
     have hfz10_1 := blk_frozen BK225.out 1
     have hfz10_2 := blk_frozen BK225.out 2
     have hfz10_3 := blk_frozen BK225.out 3
     have hfz10_4 := blk_frozen BK225.out 4
     have hfz10_5 := blk_frozen BK225.out 5
     have hcz11_0 : w5.cell? ⟨gb226, 0, none⟩ = some (.slice A1_0 l1_0.length c1_0) := (blk_cell BK226.out 0).trans rfl
     have hcz11_1 : w5.cell? ⟨gb226, 1, none⟩ = some (.slice A1_1 l1_1.length c1_1) := (blk_cell BK226.out 1).trans rfl
     have hcz11_2 : w5.cell? ⟨gb226, 2, none⟩ = some (.slice A1_2 l1_2.length c1_2) := (blk_cell BK226.out 2).trans rfl
     have hcz11_3 : w5.cell? ⟨gb226, 3, none⟩ = some (.int .u8 a1_3) := (blk_cell BK226.out 3).trans rfl
     have hcz11_4 : w5.cell? ⟨gb226, 4, none⟩ = some (.int .u8 a1_4) := (blk_cell BK226.out 4).trans rfl
     have hcz11_5 : w5.cell? ⟨gb226, 5, none⟩ = some (.int .u8 a1_5) := (blk_cell BK226.out 5).trans rfl
     have hfz11_0 := blk_frozen BK226.out 0
     have hfz11_1 := blk_frozen BK226.out 1
     have hfz11_2 := blk_frozen BK226.out 2
     have hfz11_3 := blk_frozen BK226.out 3
     have hfz11_4 := blk_frozen BK226.out 4
     have hfz11_5 := blk_frozen BK226.out 5
     go_wp2
     repeat (go_quiet (fail); try go_wp2)
     go_meet
     case rel => exact ⟨_, ((!(a0_3 == a1_3) || (!(a0_4 == a1_4) || (!(a0_5 == a1_5))))), (by first | rfl | (simp; done) | (simp [*]; done)), H', ⟨by first | omega | exact Nat.le_refl _⟩, ⟨by (with_reducible repeat first | apply bn | apply bd | apply ba); exact BK225.out⟩, ⟨by (with_reducible repeat first | apply bn | apply bd | apply ba); exact BK226.out⟩, ⟨by repeat (first | (with_reducible first | exact HB.out | apply wa | apply wn | apply wd | refine ws ?_ GE225.out | refine ws ?_ GE226.out) | exact HB.out)⟩⟩
    ·rw [if_neg c8] at H
     have c8b0 : ((l0_2.length : Int) == (l1_2.length : Int)) = false := beq_eq_false_iff_ne.mpr c8
     have c8b1 : ((l0_2.length : Int) != (l1_2.length : Int)) = true := bne_iff_ne.mpr c8
     have c8b2 : (l0_2.length == l1_2.length) = false := by first | simpa using c8 | (simp at c8 ⊢; omega)
     have H' := asd H
     clear H
     have hnb12 := NB225_226.out
     have hnc12 := NB226_225.out
     have hcz13_0 : w5.cell? ⟨gb225, 0, none⟩ = some (.slice A0_0 l0_0.length c0_0) := (blk_cell BK225.out 0).trans rfl
     have hcz13_1 : w5.cell? ⟨gb225, 1, none⟩ = some (.slice A0_1 l0_1.length c0_1) := (blk_cell BK225.out 1).trans rfl
     have hcz13_2 : w5.cell? ⟨gb225, 2, none⟩ = some (.slice A0_2 l0_2.length c0_2) := (blk_cell BK225.out 2).trans rfl
     have hcz13_3 : w5.cell? ⟨gb225, 3, none⟩ = some (.int .u8 a0_3) := (blk_cell BK225.out 3).trans rfl
     have hcz13_4 : w5.cell? ⟨gb225, 4, none⟩ = some (.int .u8 a0_4) := (blk_cell BK225.out 4).trans rfl
     have hcz13_5 : w5.cell? ⟨gb225, 5, none⟩ = some (.int .u8 a0_5) := (blk_cell BK225.out 5).trans rfl
     have hfz13_0 := blk_frozen BK225.out 0
     have hfz13_1 := blk_frozen BK225.out 1
     have hfz13_2 := blk_frozen BK225.out 2
     have hfz13_3 := blk_frozen BK225.out 3
     have hfz13_4 := blk_frozen BK225.out 4
     have hfz13_5 := blk_frozen BK225.out 5
     have hcz14_0 : w5.cell? ⟨gb226, 0, none⟩ = some (.slice A1_0 l1_0.length c1_0) := (blk_cell BK226.out 0).trans rfl
     have hcz14_1 : w5.cell? ⟨gb226, 1, none⟩ = some (.slice A1_1 l1_1.length c1_1) := (blk_cell BK226.out 1).trans rfl
     have hcz14_2 : w5.cell? ⟨gb226, 2, none⟩ = some (.slice A1_2 l1_2.length c1_2) := (blk_cell BK226.out 2).trans rfl
     have hcz14_3 : w5.cell? ⟨gb226, 3, none⟩ = some (.int .u8 a1_3) := (blk_cell BK226.out 3).trans rfl
     have hcz14_4 : w5.cell? ⟨gb226, 4, none⟩ = some (.int .u8 a1_4) := (blk_cell BK226.out 4).trans rfl
     have hcz14_5 : w5.cell? ⟨gb226, 5, none⟩ = some (.int .u8 a1_5) := (blk_cell BK226.out 5).trans rfl
     have hfz14_0 := blk_frozen BK226.out 0
     have hfz14_1 := blk_frozen BK226.out 1
     have hfz14_2 := blk_frozen BK226.out 2
     have hfz14_3 := blk_frozen BK226.out 3
     have hfz14_4 := blk_frozen BK226.out 4
     have hfz14_5 := blk_frozen BK226.out 5
     go_wp2
     repeat (go_quiet (fail); try go_wp2)
     go_meet
     case rel => exact ⟨_, (true), (by first | rfl | (simp; done) | (simp [*]; done)), H', ⟨by first | omega | exact Nat.le_refl _⟩, ⟨by (with_reducible repeat first | apply bn | apply bd | apply ba); exact BK225.out⟩, ⟨by (with_reducible repeat first | apply bn | apply bd | apply ba); exact BK226.out⟩, ⟨by repeat (first | (with_reducible first | exact HB.out | apply wa | apply wn | apply wd | refine ws ?_ GE225.out | refine ws ?_ GE226.out) | exact HB.out)⟩⟩
   ·rw [if_neg c7] at H
    have c7b0 : ((l0_1.length : Int) == (l1_1.length : Int)) = false := beq_eq_false_iff_ne.mpr c7
    have c7b1 : ((l0_1.length : Int) != (l1_1.length : Int)) = true := bne_iff_ne.mpr c7
    have c7b2 : (l0_1.length == l1_1.length) = false := by first | simpa using c7 | (simp at c7 ⊢; omega)
    have H' := asd H
    clear H
    have hnb15 := NB225_226.out
    have hnc15 := NB226_225.out
    have hcz16_0 : w5.cell? ⟨gb225, 0, none⟩ = some (.slice A0_0 l0_0.length c0_0) := (blk_cell BK225.out 0).trans rfl
    have hcz16_1 : w5.cell? ⟨gb225, 1, none⟩ = some (.slice A0_1 l0_1.length c0_1) := (blk_cell BK225.out 1).trans rfl
    have hcz16_2 : w5.cell? ⟨gb225, 2, none⟩ = some (.slice A0_2 l0_2.length c0_2) := (blk_cell BK225.out 2).trans rfl
    have hcz16_3 : w5.cell? ⟨gb225, 3, none⟩ = some (.int .u8 a0_3) := (blk_cell BK225.out 3).trans rfl
    have hcz16_4 : w5.cell? ⟨gb225, 4, none⟩ = some (.int .u8 a0_4) := (blk_cell BK225.out 4).trans rfl
    have hcz16_5 : w5.cell? ⟨gb225, 5, none⟩ = some (.int .u8 a0_5) := (blk_cell BK225.out 5).trans rfl
    have hfz16_0 := blk_frozen BK225.out 0
    have hfz16_1 := blk_frozen BK225.out 1
    have hfz16_2 := blk_frozen BK225.out 2
    have hfz16_3 := blk_frozen BK225.out 3
    have hfz16_4 := blk_frozen BK225.out 4
    have hfz16_5 := blk_frozen BK225.out 5
    have hcz17_0 : w5.cell? ⟨gb226, 0, none⟩ = some (.slice A1_0 l1_0.length c1_0) := (blk_cell BK226.out 0).trans rfl
    have hcz17_1 : w5.cell? ⟨gb226, 1, none⟩ = some (.slice A1_1 l1_1.length c1_1) := (blk_cell BK226.out 1).trans rfl
    have hcz17_2 : w5.cell? ⟨gb226, 2, none⟩ = some (.slice A1_2 l1_2.length c1_2) := (blk_cell BK226.out 2).trans rfl
    have hcz17_3 : w5.cell? ⟨gb226, 3, none⟩ = some (.int .u8 a1_3) := (blk_cell BK226.out 3).trans rfl
    have hcz17_4 : w5.cell? ⟨gb226, 4, none⟩ = some (.int .u8 a1_4) := (blk_cell BK226.out 4).trans rfl
    have hcz17_5 : w5.cell? ⟨gb226, 5, none⟩ = some (.int .u8 a1_5) := (blk_cell BK226.out 5).trans rfl
    have hfz17_0 := blk_frozen BK226.out 0
    have hfz17_1 := blk_frozen BK226.out 1
    have hfz17_2 := blk_frozen BK226.out 2
    have hfz17_3 := blk_frozen BK226.out 3
    have hfz17_4 := blk_frozen BK226.out 4
    have hfz17_5 := blk_frozen BK226.out 5
    go_wp2
    repeat (go_quiet (fail); try go_wp2)
    go_meet
    case rel => exact ⟨_, (true), (by first | rfl | (simp; done) | (simp [*]; done)), H', ⟨by first | omega | exact Nat.le_refl _⟩, ⟨by (with_reducible repeat first | apply bn | apply bd | apply ba); exact BK225.out⟩, ⟨by (with_reducible repeat first | apply bn | apply bd | apply ba); exact BK226.out⟩, ⟨by repeat (first | (with_reducible first | exact HB.out | apply wa | apply wn | apply wd | refine ws ?_ GE225.out | refine ws ?_ GE226.out) | exact HB.out)⟩⟩
  ·rw [if_neg c6] at H
   have c6b0 : ((l0_0.length : Int) == (l1_0.length : Int)) = false := beq_eq_false_iff_ne.mpr c6
   have c6b1 : ((l0_0.length : Int) != (l1_0.length : Int)) = true := bne_iff_ne.mpr c6
   have c6b2 : (l0_0.length == l1_0.length) = false := by first | simpa using c6 | (simp at c6 ⊢; omega)
   (first | rw [c6b0] | (simp only [i64_w, i32_w]; rw [c6b0]) | skip)
   have H' := asd H
   clear H
   have hnb18 := NB225_226.out
   have hnc18 := NB226_225.out
   have hcz19_0 : w5.cell? ⟨gb225, 0, none⟩ = some (.slice A0_0 l0_0.length c0_0) := (blk_cell BK225.out 0).trans rfl
   have hcz19_1 : w5.cell? ⟨gb225, 1, none⟩ = some (.slice A0_1 l0_1.length c0_1) := (blk_cell BK225.out 1).trans rfl
   have hcz19_2 : w5.cell? ⟨gb225, 2, none⟩ = some (.slice A0_2 l0_2.length c0_2) := (blk_cell BK225.out 2).trans rfl
   have hcz19_3 : w5.cell? ⟨gb225, 3, none⟩ = some (.int .u8 a0_3) := (blk_cell BK225.out 3).trans rfl
   have hcz19_4 : w5.cell? ⟨gb225, 4, none⟩ = some (.int .u8 a0_4) := (blk_cell BK225.out 4).trans rfl
   have hcz19_5 : w5.cell? ⟨gb225, 5, none⟩ = some (.int .u8 a0_5) := (blk_cell BK225.out 5).trans rfl
   have hfz19_0 := blk_frozen BK225.out 0
   have hfz19_1 := blk_frozen BK225.out 1
   have hfz19_2 := blk_frozen BK225.out 2
   have hfz19_3 := blk_frozen BK225.out 3
   have hfz19_4 := blk_frozen BK225.out 4
   have hfz19_5 := blk_frozen BK225.out 5
   have hcz20_0 : w5.cell? ⟨gb226, 0, none⟩ = some (.slice A1_0 l1_0.length c1_0) := (blk_cell BK226.out 0).trans rfl
   have hcz20_1 : w5.cell? ⟨gb226, 1, none⟩ = some (.slice A1_1 l1_1.length c1_1) := (blk_cell BK226.out 1).trans rfl
   have hcz20_2 : w5.cell? ⟨gb226, 2, none⟩ = some (.slice A1_2 l1_2.length c1_2) := (blk_cell BK226.out 2).trans rfl
   have hcz20_3 : w5.cell? ⟨gb226, 3, none⟩ = some (.int .u8 a1_3) := (blk_cell BK226.out 3).trans rfl
   have hcz20_4 : w5.cell? ⟨gb226, 4, none⟩ = some (.int .u8 a1_4) := (blk_cell BK226.out 4).trans rfl
   have hcz20_5 : w5.cell? ⟨gb226, 5, none⟩ = some (.int .u8 a1_5) := (blk_cell BK226.out 5).trans rfl
   have hfz20_0 := blk_frozen BK226.out 0
   have hfz20_1 := blk_frozen BK226.out 1
   have hfz20_2 := blk_frozen BK226.out 2
   have hfz20_3 := blk_frozen BK226.out 3
   have hfz20_4 := blk_frozen BK226.out 4
   have hfz20_5 := blk_frozen BK226.out 5
   go_wp2
   repeat (go_quiet (fail); try go_wp2)
   go_meet
   case rel => exact ⟨_, (true), (by first | rfl | (simp; done) | (simp [*]; done)), H', ⟨by first | omega | exact Nat.le_refl _⟩, ⟨by (with_reducible repeat first | apply bn | apply bd | apply ba); exact BK225.out⟩, ⟨by (with_reducible repeat first | apply bn | apply bd | apply ba); exact BK226.out⟩, ⟨by repeat (first | (with_reducible first | exact HB.out | apply wa | apply wn | apply wd | refine ws ?_ GE225.out | refine ws ?_ GE226.out) | exact HB.out)⟩⟩
 case rest =>
  clear HC3
  try clear c1
  try clear p2
  try clear c5
  try clear c6
  try clear c6b0
  try clear c6b1
  try clear c6b2
  try clear c7
  try clear c7b0
  try clear c7b1
  try clear c7b2
  try clear c8
  try clear c8b0
  try clear c8b1
  try clear c8b2
  try clear c9
  try clear c12
  try clear c15
  try clear c18
  try clear hcz10_0
  try clear hcz10_1
  try clear hcz10_2
  try clear hcz10_3
  try clear hcz10_4
  try clear hcz10_5
  try clear hcz11_0
  try clear hcz11_1
  try clear hcz11_2
  try clear hcz11_3
  try clear hcz11_4
  try clear hcz11_5
  try clear hcz13_0
  try clear hcz13_1
  try clear hcz13_2
  try clear hcz13_3
  try clear hcz13_4
  try clear hcz13_5
  try clear hcz14_0
  try clear hcz14_1
  try clear hcz14_2
  try clear hcz14_3
  try clear hcz14_4
  try clear hcz14_5
  try clear hcz16_0
  try clear hcz16_1
  try clear hcz16_2
  try clear hcz16_3
  try clear hcz16_4
  try clear hcz16_5
  try clear hcz17_0
  try clear hcz17_1
  try clear hcz17_2
  try clear hcz17_3
  try clear hcz17_4
  try clear hcz17_5
  try clear hcz19_0
  try clear hcz19_1
  try clear hcz19_2
  try clear hcz19_3
  try clear hcz19_4
  try clear hcz19_5
  try clear hcz20_0
  try clear hcz20_1
  try clear hcz20_2
  try clear hcz20_3
  try clear hcz20_4
  try clear hcz20_5
  try clear hfz10_0
  try clear hfz10_1
  try clear hfz10_2
  try clear hfz10_3
  try clear hfz10_4
  try clear hfz10_5
  try clear hfz11_0
  try clear hfz11_1
  try clear hfz11_2
  try clear hfz11_3
  try clear hfz11_4
  try clear hfz11_5
  try clear hfz13_0
  try clear hfz13_1
  try clear hfz13_2
  try clear hfz13_3
  try clear hfz13_4
  try clear hfz13_5
  try clear hfz14_0
  try clear hfz14_1
  try clear hfz14_2
  try clear hfz14_3
  try clear hfz14_4
  try clear hfz14_5
  try clear hfz16_0
  try clear hfz16_1
  try clear hfz16_2
  try clear hfz16_3
  try clear hfz16_4
  try clear hfz16_5
  try clear hfz17_0
  try clear hfz17_1
  try clear hfz17_2
  try clear hfz17_3
  try clear hfz17_4
  try clear hfz17_5
  try clear hfz19_0
  try clear hfz19_1
  try clear hfz19_2
  try clear hfz19_3
  try clear hfz19_4
  try clear hfz19_5
  try clear hfz20_0
  try clear hfz20_1
  try clear hfz20_2
  try clear hfz20_3
  try clear hfz20_4
  try clear hfz20_5
  obtain ⟨kq, x39_2, rfl, HA, HJ2, BK225, BK226, HB⟩ := hcut
  cases kq with
  | zero => exact absurd HA.out (by simp [parcloseref03_samePart.j0])
  | succ kj2 =>
   have H := HA.out
   clear HA
   simp only [parcloseref03_samePart.j0] at H
   by_cases c21 : x39_2 = true
   ·subst c21
    have H1 : (some false) = some r := by rw [if_pos rfl] at H; exact H
    clear H
    have H := H1
    clear H1
    obtain rfl := Option.some.inj H
    go_wp2
    repeat (go_quiet (fail); try go_wp2)
    go_ret
    exact ⟨by first | rfl | (simp [*] <;> rfl), by repeat (first | (with_reducible first | exact HB.out | apply wa | apply wn | apply wd | refine ws ?_ GE225.out | refine ws ?_ GE226.out) | exact HB.out)⟩
   ·replace c21 := Bool.eq_false_iff.mpr c21
    subst c21
    have H1 : (parcloseref03_samePart.l0 kj2 0 l0_0 l0_1 l0_2 a0_3 a0_4 a0_5 l1_0 l1_1 l1_2 a1_3 a1_4 a1_5) = some r := by rw [if_neg (show ¬ (false = true) by decide)] at H; exact H
    clear H
    have H := H1
    clear H1
    have H' := asd H
    clear H
    go_wp2
    repeat (go_quiet (fail); try go_wp2)
    go_loopg [5] kj2 (fun kq v5 w' => ∃ (x5_2 : Int), v5 = .int .i64 x5_2 ∧ Aside0 (parcloseref03_samePart.l0 kq x5_2 l0_0 l0_1 l0_2 a0_3 a0_4 a0_5 l1_0 l1_1 l1_2 a1_3 a1_4 a1_5 = some r) ∧ Aside0 (kq ≤ kj2) ∧ Aside0 (w'.heap[gb225]? = some (.cells #[(.slice A0_0 l0_0.length c0_0), (.slice A0_1 l0_1.length c0_1), (.slice A0_2 l0_2.length c0_2), .int .u8 a0_3, .int .u8 a0_4, .int .u8 a0_5] 61 (0, 0))) ∧ Aside0 (w'.heap[gb226]? = some (.cells #[(.slice A1_0 l1_0.length c1_0), (.slice A1_1 l1_1.length c1_1), (.slice A1_2 l1_2.length c1_2), .int .u8 a1_3, .int .u8 a1_4, .int .u8 a1_5] 61 (0, 0))) ∧ Aside0 (Below w.heap.size w w'))
    case atStart => exact ⟨(0), (by first | rfl | (simp; done) | (simp [*]; done)), H', ⟨Nat.le_refl _⟩, ⟨by (with_reducible repeat first | apply bn | apply bd | apply ba); exact BK225.out⟩, ⟨by (with_reducible repeat first | apply bn | apply bd | apply ba); exact BK226.out⟩, ⟨by repeat (first | (with_reducible first | exact HB.out | apply wa | apply wn | apply wd | refine ws ?_ GE225.out | refine ws ?_ GE226.out) | exact HB.out)⟩⟩
    case round =>
     clear H'
     try clear c1
     try clear c2
     try clear p2
     try clear c5
     try clear c6
     try clear c6b0
     try clear c6b1
     try clear c6b2
     try clear c7
     try clear c7b0
     try clear c7b1
     try clear c7b2
     try clear c8
     try clear c8b0
     try clear c8b1
     try clear c8b2
     try clear c9
     try clear c12
     try clear c15
     try clear c18
     try clear c21
     try clear hcz10_0
     try clear hcz10_1
     try clear hcz10_2
     try clear hcz10_3
     try clear hcz10_4
     try clear hcz10_5
     try clear hcz11_0
     try clear hcz11_1
     try clear hcz11_2
     try clear hcz11_3
     try clear hcz11_4
     try clear hcz11_5
     try clear hcz13_0
     try clear hcz13_1
     try clear hcz13_2
     try clear hcz13_3
     try clear hcz13_4
     try clear hcz13_5
     try clear hcz14_0
     try clear hcz14_1
     try clear hcz14_2
     try clear hcz14_3
     try clear hcz14_4
     try clear hcz14_5
     try clear hcz16_0
     try clear hcz16_1
     try clear hcz16_2
     try clear hcz16_3
     try clear hcz16_4
     try clear hcz16_5
     try clear hcz17_0
     try clear hcz17_1
     try clear hcz17_2
     try clear hcz17_3
     try clear hcz17_4
     try clear hcz17_5
     try clear hcz19_0
     try clear hcz19_1
     try clear hcz19_2
     try clear hcz19_3
     try clear hcz19_4
     try clear hcz19_5
     try clear hcz20_0
     try clear hcz20_1
     try clear hcz20_2
     try clear hcz20_3
     try clear hcz20_4
     try clear hcz20_5
     try clear hfz10_0
     try clear hfz10_1
     try clear hfz10_2
     try clear hfz10_3
     try clear hfz10_4
     try clear hfz10_5
     try clear hfz11_0
     try clear hfz11_1
     try clear hfz11_2
     try clear hfz11_3
     try clear hfz11_4
     try clear hfz11_5
     try clear hfz13_0
     try clear hfz13_1
     try clear hfz13_2
     try clear hfz13_3
     try clear hfz13_4
     try clear hfz13_5
     try clear hfz14_0
     try clear hfz14_1
     try clear hfz14_2
     try clear hfz14_3
     try clear hfz14_4
     try clear hfz14_5
     try clear hfz16_0
     try clear hfz16_1
     try clear hfz16_2
     try clear hfz16_3
     try clear hfz16_4
     try clear hfz16_5
     try clear hfz17_0
     try clear hfz17_1
     try clear hfz17_2
     try clear hfz17_3
     try clear hfz17_4
     try clear hfz17_5
     try clear hfz19_0
     try clear hfz19_1
     try clear hfz19_2
     try clear hfz19_3
     try clear hfz19_4
     try clear hfz19_5
     try clear hfz20_0
     try clear hfz20_1
     try clear hfz20_2
     try clear hfz20_3
     try clear hfz20_4
     try clear hfz20_5
     try clear p2
     obtain ⟨x5_2, rfl, HA, HK2, BK225, BK226, HB⟩ := hrel
     cases gk with
     | zero => exact absurd HA.out (by simp [parcloseref03_samePart.l0])
     | succ k2 =>
      have H := HA.out
      clear HA
      simp only [parcloseref03_samePart.l0] at H
      by_cases c22 : x5_2 < (l0_0.length : Int)
      ·rw [if_pos c22] at H
       have c22b0 : decide (x5_2 < (l0_0.length : Int)) = true := decide_eq_true c22
       clear c22
       by_cases c23 : 0 ≤ x5_2
       ·rw [if_pos c23] at H
        have c23b0 : decide (0 ≤ x5_2) = true := decide_eq_true c23
        clear c23
        by_cases c24 : x5_2 < (l1_0.length : Int)
        ·rw [if_pos c24] at H
         have c24b0 : decide (x5_2 < (l1_0.length : Int)) = true := decide_eq_true c24
         clear c24
         by_cases c25 : (!(((rd_T56 l0_0 x5_2).f0) == ((rd_T56 l1_0 x5_2).f0)) || (!(((rd_T56 l0_0 x5_2).f1) == ((rd_T56 l1_0 x5_2).f1)) || (!(((rd_T56 l0_0 x5_2).f2) == ((rd_T56 l1_0 x5_2).f2)) || (!(((rd_T56 l0_0 x5_2).f3) == ((rd_T56 l1_0 x5_2).f3)) || (!(((rd_T56 l0_0 x5_2).f4) == ((rd_T56 l1_0 x5_2).f4)) || (!(((rd_T56 l0_0 x5_2).f5) == ((rd_T56 l1_0 x5_2).f5)))))))) = true
         ·rw [if_pos c25] at H
          have c25b0 : (!(((rd_T56 l0_0 x5_2).f0) == ((rd_T56 l1_0 x5_2).f0)) || (!(((rd_T56 l0_0 x5_2).f1) == ((rd_T56 l1_0 x5_2).f1)) || (!(((rd_T56 l0_0 x5_2).f2) == ((rd_T56 l1_0 x5_2).f2)) || (!(((rd_T56 l0_0 x5_2).f3) == ((rd_T56 l1_0 x5_2).f3)) || (!(((rd_T56 l0_0 x5_2).f4) == ((rd_T56 l1_0 x5_2).f4)) || (!(((rd_T56 l0_0 x5_2).f5) == ((rd_T56 l1_0 x5_2).f5)))))))) = true := c25
          clear c25
          obtain rfl := Option.some.inj H
          have hnb26 := NB225_226.out
          have hnc26 := NB226_225.out
          have hcz27_0 : wr.cell? ⟨gb225, 0, none⟩ = some (.slice A0_0 l0_0.length c0_0) := (blk_cell BK225.out 0).trans rfl
          have hcz27_1 : wr.cell? ⟨gb225, 1, none⟩ = some (.slice A0_1 l0_1.length c0_1) := (blk_cell BK225.out 1).trans rfl
          have hcz27_2 : wr.cell? ⟨gb225, 2, none⟩ = some (.slice A0_2 l0_2.length c0_2) := (blk_cell BK225.out 2).trans rfl
          have hcz27_3 : wr.cell? ⟨gb225, 3, none⟩ = some (.int .u8 a0_3) := (blk_cell BK225.out 3).trans rfl
          have hcz27_4 : wr.cell? ⟨gb225, 4, none⟩ = some (.int .u8 a0_4) := (blk_cell BK225.out 4).trans rfl
          have hcz27_5 : wr.cell? ⟨gb225, 5, none⟩ = some (.int .u8 a0_5) := (blk_cell BK225.out 5).trans rfl
          have hfz27_0 := blk_frozen BK225.out 0
          have hfz27_1 := blk_frozen BK225.out 1
          have hfz27_2 := blk_frozen BK225.out 2
          have hfz27_3 := blk_frozen BK225.out 3
          have hfz27_4 := blk_frozen BK225.out 4
          have hfz27_5 := blk_frozen BK225.out 5
          have p227 : 0 ≤ (x5_2 : Int) := of_decide_eq_true (by assumption)
          have q227 : x5_2 < (l0_0.length : Int) := of_decide_eq_true (by assumption)
          obtain ⟨ad227, e227, hx227_0, hx227_1, hx227_2, hx227_3, hx227_4, hx227_5⟩ := at_T56 HR0_0.out x5_2 p227 q227
          cases e227
          replace hx227_0 := (HB.out.cell (World.block_lt_of_cell? w _ hx227_0)).trans hx227_0
          replace hx227_1 := (HB.out.cell (World.block_lt_of_cell? w _ hx227_1)).trans hx227_1
          replace hx227_2 := (HB.out.cell (World.block_lt_of_cell? w _ hx227_2)).trans hx227_2
          replace hx227_3 := (HB.out.cell (World.block_lt_of_cell? w _ hx227_3)).trans hx227_3
          replace hx227_4 := (HB.out.cell (World.block_lt_of_cell? w _ hx227_4)).trans hx227_4
          replace hx227_5 := (HB.out.cell (World.block_lt_of_cell? w _ hx227_5)).trans hx227_5
          replace p227 := eq_true p227
          replace q227 := eq_true q227
          have hcz28_0 : wr.cell? ⟨gb226, 0, none⟩ = some (.slice A1_0 l1_0.length c1_0) := (blk_cell BK226.out 0).trans rfl
          have hcz28_1 : wr.cell? ⟨gb226, 1, none⟩ = some (.slice A1_1 l1_1.length c1_1) := (blk_cell BK226.out 1).trans rfl
          have hcz28_2 : wr.cell? ⟨gb226, 2, none⟩ = some (.slice A1_2 l1_2.length c1_2) := (blk_cell BK226.out 2).trans rfl
          have hcz28_3 : wr.cell? ⟨gb226, 3, none⟩ = some (.int .u8 a1_3) := (blk_cell BK226.out 3).trans rfl
          have hcz28_4 : wr.cell? ⟨gb226, 4, none⟩ = some (.int .u8 a1_4) := (blk_cell BK226.out 4).trans rfl
          have hcz28_5 : wr.cell? ⟨gb226, 5, none⟩ = some (.int .u8 a1_5) := (blk_cell BK226.out 5).trans rfl
          have hfz28_0 := blk_frozen BK226.out 0
          have hfz28_1 := blk_frozen BK226.out 1
          have hfz28_2 := blk_frozen BK226.out 2
          have hfz28_3 := blk_frozen BK226.out 3
          have hfz28_4 := blk_frozen BK226.out 4
          have hfz28_5 := blk_frozen BK226.out 5
          have p228 : 0 ≤ (x5_2 : Int) := of_decide_eq_true (by assumption)
          have q228 : x5_2 < (l1_0.length : Int) := of_decide_eq_true (by assumption)
          obtain ⟨ad228, e228, hx228_0, hx228_1, hx228_2, hx228_3, hx228_4, hx228_5⟩ := at_T56 HR1_0.out x5_2 p228 q228
          cases e228
          replace hx228_0 := (HB.out.cell (World.block_lt_of_cell? w _ hx228_0)).trans hx228_0
          replace hx228_1 := (HB.out.cell (World.block_lt_of_cell? w _ hx228_1)).trans hx228_1
          replace hx228_2 := (HB.out.cell (World.block_lt_of_cell? w _ hx228_2)).trans hx228_2
          replace hx228_3 := (HB.out.cell (World.block_lt_of_cell? w _ hx228_3)).trans hx228_3
          replace hx228_4 := (HB.out.cell (World.block_lt_of_cell? w _ hx228_4)).trans hx228_4
          replace hx228_5 := (HB.out.cell (World.block_lt_of_cell? w _ hx228_5)).trans hx228_5
          replace p228 := eq_true p228
          replace q228 := eq_true q228
          go_wp2
          repeat (go_quiet (fail); try go_wp2)
          go_ret
          exact ⟨by first | rfl | (simp [*] <;> rfl), by repeat (first | (with_reducible first | exact HB.out | apply wa | apply wn | apply wd | refine ws ?_ GE225.out | refine ws ?_ GE226.out) | exact HB.out)⟩
         ·rw [if_neg c25] at H
          have c25b0 : (!(((rd_T56 l0_0 x5_2).f0) == ((rd_T56 l1_0 x5_2).f0)) || (!(((rd_T56 l0_0 x5_2).f1) == ((rd_T56 l1_0 x5_2).f1)) || (!(((rd_T56 l0_0 x5_2).f2) == ((rd_T56 l1_0 x5_2).f2)) || (!(((rd_T56 l0_0 x5_2).f3) == ((rd_T56 l1_0 x5_2).f3)) || (!(((rd_T56 l0_0 x5_2).f4) == ((rd_T56 l1_0 x5_2).f4)) || (!(((rd_T56 l0_0 x5_2).f5) == ((rd_T56 l1_0 x5_2).f5)))))))) = false := by simpa using c25
          clear c25
          have H' := asd H
          clear H
          have hnb29 := NB225_226.out
          have hnc29 := NB226_225.out
          have hcz30_0 : wr.cell? ⟨gb225, 0, none⟩ = some (.slice A0_0 l0_0.length c0_0) := (blk_cell BK225.out 0).trans rfl
          have hcz30_1 : wr.cell? ⟨gb225, 1, none⟩ = some (.slice A0_1 l0_1.length c0_1) := (blk_cell BK225.out 1).trans rfl
          have hcz30_2 : wr.cell? ⟨gb225, 2, none⟩ = some (.slice A0_2 l0_2.length c0_2) := (blk_cell BK225.out 2).trans rfl
          have hcz30_3 : wr.cell? ⟨gb225, 3, none⟩ = some (.int .u8 a0_3) := (blk_cell BK225.out 3).trans rfl
          have hcz30_4 : wr.cell? ⟨gb225, 4, none⟩ = some (.int .u8 a0_4) := (blk_cell BK225.out 4).trans rfl
          have hcz30_5 : wr.cell? ⟨gb225, 5, none⟩ = some (.int .u8 a0_5) := (blk_cell BK225.out 5).trans rfl
          have hfz30_0 := blk_frozen BK225.out 0
          have hfz30_1 := blk_frozen BK225.out 1
          have hfz30_2 := blk_frozen BK225.out 2
          have hfz30_3 := blk_frozen BK225.out 3
          have hfz30_4 := blk_frozen BK225.out 4
          have hfz30_5 := blk_frozen BK225.out 5
          have p227 : 0 ≤ (x5_2 : Int) := of_decide_eq_true (by assumption)
          have q227 : x5_2 < (l0_0.length : Int) := of_decide_eq_true (by assumption)
          obtain ⟨ad227, e227, hx227_0, hx227_1, hx227_2, hx227_3, hx227_4, hx227_5⟩ := at_T56 HR0_0.out x5_2 p227 q227
          cases e227
          replace hx227_0 := (HB.out.cell (World.block_lt_of_cell? w _ hx227_0)).trans hx227_0
          replace hx227_1 := (HB.out.cell (World.block_lt_of_cell? w _ hx227_1)).trans hx227_1
          replace hx227_2 := (HB.out.cell (World.block_lt_of_cell? w _ hx227_2)).trans hx227_2
          replace hx227_3 := (HB.out.cell (World.block_lt_of_cell? w _ hx227_3)).trans hx227_3
          replace hx227_4 := (HB.out.cell (World.block_lt_of_cell? w _ hx227_4)).trans hx227_4
          replace hx227_5 := (HB.out.cell (World.block_lt_of_cell? w _ hx227_5)).trans hx227_5
          replace p227 := eq_true p227
          replace q227 := eq_true q227
          have hcz31_0 : wr.cell? ⟨gb226, 0, none⟩ = some (.slice A1_0 l1_0.length c1_0) := (blk_cell BK226.out 0).trans rfl
          have hcz31_1 : wr.cell? ⟨gb226, 1, none⟩ = some (.slice A1_1 l1_1.length c1_1) := (blk_cell BK226.out 1).trans rfl
          have hcz31_2 : wr.cell? ⟨gb226, 2, none⟩ = some (.slice A1_2 l1_2.length c1_2) := (blk_cell BK226.out 2).trans rfl
          have hcz31_3 : wr.cell? ⟨gb226, 3, none⟩ = some (.int .u8 a1_3) := (blk_cell BK226.out 3).trans rfl
          have hcz31_4 : wr.cell? ⟨gb226, 4, none⟩ = some (.int .u8 a1_4) := (blk_cell BK226.out 4).trans rfl
          have hcz31_5 : wr.cell? ⟨gb226, 5, none⟩ = some (.int .u8 a1_5) := (blk_cell BK226.out 5).trans rfl
          have hfz31_0 := blk_frozen BK226.out 0
          have hfz31_1 := blk_frozen BK226.out 1
          have hfz31_2 := blk_frozen BK226.out 2
          have hfz31_3 := blk_frozen BK226.out 3
          have hfz31_4 := blk_frozen BK226.out 4
          have hfz31_5 := blk_frozen BK226.out 5
          have p228 : 0 ≤ (x5_2 : Int) := of_decide_eq_true (by assumption)
          have q228 : x5_2 < (l1_0.length : Int) := of_decide_eq_true (by assumption)
          obtain ⟨ad228, e228, hx228_0, hx228_1, hx228_2, hx228_3, hx228_4, hx228_5⟩ := at_T56 HR1_0.out x5_2 p228 q228
          cases e228
          replace hx228_0 := (HB.out.cell (World.block_lt_of_cell? w _ hx228_0)).trans hx228_0
          replace hx228_1 := (HB.out.cell (World.block_lt_of_cell? w _ hx228_1)).trans hx228_1
          replace hx228_2 := (HB.out.cell (World.block_lt_of_cell? w _ hx228_2)).trans hx228_2
          replace hx228_3 := (HB.out.cell (World.block_lt_of_cell? w _ hx228_3)).trans hx228_3
          replace hx228_4 := (HB.out.cell (World.block_lt_of_cell? w _ hx228_4)).trans hx228_4
          replace hx228_5 := (HB.out.cell (World.block_lt_of_cell? w _ hx228_5)).trans hx228_5
          replace p228 := eq_true p228
          replace q228 := eq_true q228
          go_wp2
          repeat (go_quiet (fail); try go_wp2)
          go_roundg k2
          case measure => have := HJ2.out; have := HK2.out; omega
          case rel => exact ⟨(wrap64 (x5_2 + 1)), (by first | rfl | (simp; done) | (simp [*]; done)), H', ⟨by have := HJ2.out; have := HK2.out; omega⟩, ⟨by (with_reducible repeat first | apply bn | apply bd | apply ba); exact BK225.out⟩, ⟨by (with_reducible repeat first | apply bn | apply bd | apply ba); exact BK226.out⟩, ⟨by repeat (first | (with_reducible first | exact HB.out | apply wa | apply wn | apply wd | refine ws ?_ GE225.out | refine ws ?_ GE226.out) | exact HB.out)⟩⟩
        ·rw [if_neg c24] at H
         exact absurd H (by simp)
       ·rw [if_neg c23] at H
        exact absurd H (by simp)
      ·rw [if_neg c22] at H
       have c22b0 : decide (x5_2 < (l0_0.length : Int)) = false := decide_eq_false c22
       clear c22
       have H' := asd H
       clear H
       have hnb32 := NB225_226.out
       have hnc32 := NB226_225.out
       have hcz33_0 : wr.cell? ⟨gb225, 0, none⟩ = some (.slice A0_0 l0_0.length c0_0) := (blk_cell BK225.out 0).trans rfl
       have hcz33_1 : wr.cell? ⟨gb225, 1, none⟩ = some (.slice A0_1 l0_1.length c0_1) := (blk_cell BK225.out 1).trans rfl
       have hcz33_2 : wr.cell? ⟨gb225, 2, none⟩ = some (.slice A0_2 l0_2.length c0_2) := (blk_cell BK225.out 2).trans rfl
       have hcz33_3 : wr.cell? ⟨gb225, 3, none⟩ = some (.int .u8 a0_3) := (blk_cell BK225.out 3).trans rfl
       have hcz33_4 : wr.cell? ⟨gb225, 4, none⟩ = some (.int .u8 a0_4) := (blk_cell BK225.out 4).trans rfl
       have hcz33_5 : wr.cell? ⟨gb225, 5, none⟩ = some (.int .u8 a0_5) := (blk_cell BK225.out 5).trans rfl
       have hfz33_0 := blk_frozen BK225.out 0
       have hfz33_1 := blk_frozen BK225.out 1
       have hfz33_2 := blk_frozen BK225.out 2
       have hfz33_3 := blk_frozen BK225.out 3
       have hfz33_4 := blk_frozen BK225.out 4
       have hfz33_5 := blk_frozen BK225.out 5
       go_wp2
       repeat (go_quiet (fail); try go_wp2)
       go_loopg [6] k2 (fun kq v6 w' => ∃ (x6_3 : Int), v6 = .int .i64 x6_3 ∧ Aside0 (parcloseref03_samePart.l1 kq x6_3 l0_0 l0_1 l0_2 a0_3 a0_4 a0_5 l1_0 l1_1 l1_2 a1_3 a1_4 a1_5 = some r) ∧ Aside0 (kq ≤ k2) ∧ Aside0 (w'.heap[gb225]? = some (.cells #[(.slice A0_0 l0_0.length c0_0), (.slice A0_1 l0_1.length c0_1), (.slice A0_2 l0_2.length c0_2), .int .u8 a0_3, .int .u8 a0_4, .int .u8 a0_5] 61 (0, 0))) ∧ Aside0 (w'.heap[gb226]? = some (.cells #[(.slice A1_0 l1_0.length c1_0), (.slice A1_1 l1_1.length c1_1), (.slice A1_2 l1_2.length c1_2), .int .u8 a1_3, .int .u8 a1_4, .int .u8 a1_5] 61 (0, 0))) ∧ Aside0 (Below w.heap.size w w'))
       case atStart => exact ⟨(0), (by first | rfl | (simp; done) | (simp [*]; done)), H', ⟨Nat.le_refl _⟩, ⟨by (with_reducible repeat first | apply bn | apply bd | apply ba); exact BK225.out⟩, ⟨by (with_reducible repeat first | apply bn | apply bd | apply ba); exact BK226.out⟩, ⟨by repeat (first | (with_reducible first | exact HB.out | apply wa | apply wn | apply wd | refine ws ?_ GE225.out | refine ws ?_ GE226.out) | exact HB.out)⟩⟩
       case round =>
        clear H'
        try clear c1
        try clear c2
        try clear p2
        try clear q2
        try clear hx2
        try clear c3
        try clear c5
        try clear c6
        try clear c6b0
        try clear c6b1
        try clear c6b2
        try clear p6
        try clear c7
        try clear c7b0
        try clear c7b1
        try clear c7b2
        try clear c8
        try clear c8b0
        try clear c8b1
        try clear c8b2
        try clear c9
        try clear c12
        try clear c15
        try clear c18
        try clear c21
        try clear c22
        try clear c22b0
        try clear p22
        try clear q22
        try clear hx22
        try clear c23
        try clear c23b0
        try clear c24
        try clear c24b0
        try clear c25
        try clear c25b0
        try clear c26
        try clear c29
        try clear c32
        try clear hcz10_0
        try clear hcz10_1
        try clear hcz10_2
        try clear hcz10_3
        try clear hcz10_4
        try clear hcz10_5
        try clear hcz11_0
        try clear hcz11_1
        try clear hcz11_2
        try clear hcz11_3
        try clear hcz11_4
        try clear hcz11_5
        try clear hcz13_0
        try clear hcz13_1
        try clear hcz13_2
        try clear hcz13_3
        try clear hcz13_4
        try clear hcz13_5
        try clear hcz14_0
        try clear hcz14_1
        try clear hcz14_2
        try clear hcz14_3
        try clear hcz14_4
        try clear hcz14_5
        try clear hcz16_0
        try clear hcz16_1
        try clear hcz16_2
        try clear hcz16_3
        try clear hcz16_4
        try clear hcz16_5
        try clear hcz17_0
        try clear hcz17_1
        try clear hcz17_2
        try clear hcz17_3
        try clear hcz17_4
        try clear hcz17_5
        try clear hcz19_0
        try clear hcz19_1
        try clear hcz19_2
        try clear hcz19_3
        try clear hcz19_4
        try clear hcz19_5
        try clear hcz20_0
        try clear hcz20_1
        try clear hcz20_2
        try clear hcz20_3
        try clear hcz20_4
        try clear hcz20_5
        try clear hcz27_0
        try clear hcz27_1
        try clear hcz27_2
        try clear hcz27_3
        try clear hcz27_4
        try clear hcz27_5
        try clear hcz28_0
        try clear hcz28_1
        try clear hcz28_2
        try clear hcz28_3
        try clear hcz28_4
        try clear hcz28_5
        try clear hcz30_0
        try clear hcz30_1
        try clear hcz30_2
        try clear hcz30_3
        try clear hcz30_4
        try clear hcz30_5
        try clear hcz31_0
        try clear hcz31_1
        try clear hcz31_2
        try clear hcz31_3
        try clear hcz31_4
        try clear hcz31_5
        try clear hcz33_0
        try clear hcz33_1
        try clear hcz33_2
        try clear hcz33_3
        try clear hcz33_4
        try clear hcz33_5
        try clear hfz10_0
        try clear hfz10_1
        try clear hfz10_2
        try clear hfz10_3
        try clear hfz10_4
        try clear hfz10_5
        try clear hfz11_0
        try clear hfz11_1
        try clear hfz11_2
        try clear hfz11_3
        try clear hfz11_4
        try clear hfz11_5
        try clear hfz13_0
        try clear hfz13_1
        try clear hfz13_2
        try clear hfz13_3
        try clear hfz13_4
        try clear hfz13_5
        try clear hfz14_0
        try clear hfz14_1
        try clear hfz14_2
        try clear hfz14_3
        try clear hfz14_4
        try clear hfz14_5
        try clear hfz16_0
        try clear hfz16_1
        try clear hfz16_2
        try clear hfz16_3
        try clear hfz16_4
        try clear hfz16_5
        try clear hfz17_0
        try clear hfz17_1
        try clear hfz17_2
        try clear hfz17_3
        try clear hfz17_4
        try clear hfz17_5
        try clear hfz19_0
        try clear hfz19_1
        try clear hfz19_2
        try clear hfz19_3
        try clear hfz19_4
        try clear hfz19_5
        try clear hfz20_0
        try clear hfz20_1
        try clear hfz20_2
        try clear hfz20_3
        try clear hfz20_4
        try clear hfz20_5
        try clear hfz27_0
        try clear hfz27_1
        try clear hfz27_2
        try clear hfz27_3
        try clear hfz27_4
        try clear hfz27_5
        try clear hfz28_0
        try clear hfz28_1
        try clear hfz28_2
        try clear hfz28_3
        try clear hfz28_4
        try clear hfz28_5
        try clear hfz30_0
        try clear hfz30_1
        try clear hfz30_2
        try clear hfz30_3
        try clear hfz30_4
        try clear hfz30_5
        try clear hfz31_0
        try clear hfz31_1
        try clear hfz31_2
        try clear hfz31_3
        try clear hfz31_4
        try clear hfz31_5
        try clear hfz33_0
        try clear hfz33_1
        try clear hfz33_2
        try clear hfz33_3
        try clear hfz33_4
        try clear hfz33_5
        try clear hx227_0
        try clear hx227_1
        try clear hx227_2
        try clear hx227_3
        try clear hx227_4
        try clear hx227_5
        try clear hx228_0
        try clear hx228_1
        try clear hx228_2
        try clear hx228_3
        try clear hx228_4
        try clear hx228_5
        try clear p2
        try clear p227
        try clear p228
        try clear q227
        try clear q228
        obtain ⟨x6_3, rfl, HA, HK3, BK225, BK226, HB⟩ := hrel
        cases gk with
        | zero => exact absurd HA.out (by simp [parcloseref03_samePart.l1])
        | succ k3 =>
         have H := HA.out
         clear HA
         simp only [parcloseref03_samePart.l1] at H
         by_cases c34 : x6_3 < (l0_1.length : Int)
         ·rw [if_pos c34] at H
          have c34b0 : decide (x6_3 < (l0_1.length : Int)) = true := decide_eq_true c34
          clear c34
          by_cases c35 : 0 ≤ x6_3
          ·rw [if_pos c35] at H
           have c35b0 : decide (0 ≤ x6_3) = true := decide_eq_true c35
           clear c35
           by_cases c36 : x6_3 < (l1_1.length : Int)
           ·rw [if_pos c36] at H
            have c36b0 : decide (x6_3 < (l1_1.length : Int)) = true := decide_eq_true c36
            clear c36
            by_cases c37 : (!(((rd_T57 l0_1 x6_3).f0) == ((rd_T57 l1_1 x6_3).f0)) || (!(((rd_T57 l0_1 x6_3).f1) == ((rd_T57 l1_1 x6_3).f1)) || (!(((rd_T57 l0_1 x6_3).f2) == ((rd_T57 l1_1 x6_3).f2))))) = true
            ·rw [if_pos c37] at H
             have c37b0 : (!(((rd_T57 l0_1 x6_3).f0) == ((rd_T57 l1_1 x6_3).f0)) || (!(((rd_T57 l0_1 x6_3).f1) == ((rd_T57 l1_1 x6_3).f1)) || (!(((rd_T57 l0_1 x6_3).f2) == ((rd_T57 l1_1 x6_3).f2))))) = true := c37
             clear c37
             obtain rfl := Option.some.inj H
             have hnb38 := NB225_226.out
             have hnc38 := NB226_225.out
             have hcz39_0 : wr.cell? ⟨gb225, 0, none⟩ = some (.slice A0_0 l0_0.length c0_0) := (blk_cell BK225.out 0).trans rfl
             have hcz39_1 : wr.cell? ⟨gb225, 1, none⟩ = some (.slice A0_1 l0_1.length c0_1) := (blk_cell BK225.out 1).trans rfl
             have hcz39_2 : wr.cell? ⟨gb225, 2, none⟩ = some (.slice A0_2 l0_2.length c0_2) := (blk_cell BK225.out 2).trans rfl
             have hcz39_3 : wr.cell? ⟨gb225, 3, none⟩ = some (.int .u8 a0_3) := (blk_cell BK225.out 3).trans rfl
             have hcz39_4 : wr.cell? ⟨gb225, 4, none⟩ = some (.int .u8 a0_4) := (blk_cell BK225.out 4).trans rfl
             have hcz39_5 : wr.cell? ⟨gb225, 5, none⟩ = some (.int .u8 a0_5) := (blk_cell BK225.out 5).trans rfl
             have hfz39_0 := blk_frozen BK225.out 0
             have hfz39_1 := blk_frozen BK225.out 1
             have hfz39_2 := blk_frozen BK225.out 2
             have hfz39_3 := blk_frozen BK225.out 3
             have hfz39_4 := blk_frozen BK225.out 4
             have hfz39_5 := blk_frozen BK225.out 5
             have p229 : 0 ≤ (x6_3 : Int) := of_decide_eq_true (by assumption)
             have q229 : x6_3 < (l0_1.length : Int) := of_decide_eq_true (by assumption)
             obtain ⟨ad229, e229, hx229_0, hx229_1, hx229_2⟩ := at_T57 HR0_1.out x6_3 p229 q229
             cases e229
             replace hx229_0 := (HB.out.cell (World.block_lt_of_cell? w _ hx229_0)).trans hx229_0
             replace hx229_1 := (HB.out.cell (World.block_lt_of_cell? w _ hx229_1)).trans hx229_1
             replace hx229_2 := (HB.out.cell (World.block_lt_of_cell? w _ hx229_2)).trans hx229_2
             replace p229 := eq_true p229
             replace q229 := eq_true q229
             have hcz40_0 : wr.cell? ⟨gb226, 0, none⟩ = some (.slice A1_0 l1_0.length c1_0) := (blk_cell BK226.out 0).trans rfl
             have hcz40_1 : wr.cell? ⟨gb226, 1, none⟩ = some (.slice A1_1 l1_1.length c1_1) := (blk_cell BK226.out 1).trans rfl
             have hcz40_2 : wr.cell? ⟨gb226, 2, none⟩ = some (.slice A1_2 l1_2.length c1_2) := (blk_cell BK226.out 2).trans rfl
             have hcz40_3 : wr.cell? ⟨gb226, 3, none⟩ = some (.int .u8 a1_3) := (blk_cell BK226.out 3).trans rfl
             have hcz40_4 : wr.cell? ⟨gb226, 4, none⟩ = some (.int .u8 a1_4) := (blk_cell BK226.out 4).trans rfl
             have hcz40_5 : wr.cell? ⟨gb226, 5, none⟩ = some (.int .u8 a1_5) := (blk_cell BK226.out 5).trans rfl
             have hfz40_0 := blk_frozen BK226.out 0
             have hfz40_1 := blk_frozen BK226.out 1
             have hfz40_2 := blk_frozen BK226.out 2
             have hfz40_3 := blk_frozen BK226.out 3
             have hfz40_4 := blk_frozen BK226.out 4
             have hfz40_5 := blk_frozen BK226.out 5
             have p230 : 0 ≤ (x6_3 : Int) := of_decide_eq_true (by assumption)
             have q230 : x6_3 < (l1_1.length : Int) := of_decide_eq_true (by assumption)
             obtain ⟨ad230, e230, hx230_0, hx230_1, hx230_2⟩ := at_T57 HR1_1.out x6_3 p230 q230
             cases e230
             replace hx230_0 := (HB.out.cell (World.block_lt_of_cell? w _ hx230_0)).trans hx230_0
             replace hx230_1 := (HB.out.cell (World.block_lt_of_cell? w _ hx230_1)).trans hx230_1
             replace hx230_2 := (HB.out.cell (World.block_lt_of_cell? w _ hx230_2)).trans hx230_2
             replace p230 := eq_true p230
             replace q230 := eq_true q230
             go_wp2
             repeat (go_quiet (fail); try go_wp2)
             go_ret
             exact ⟨by first | rfl | (simp [*] <;> rfl), by repeat (first | (with_reducible first | exact HB.out | apply wa | apply wn | apply wd | refine ws ?_ GE225.out | refine ws ?_ GE226.out) | exact HB.out)⟩
            ·rw [if_neg c37] at H
             have c37b0 : (!(((rd_T57 l0_1 x6_3).f0) == ((rd_T57 l1_1 x6_3).f0)) || (!(((rd_T57 l0_1 x6_3).f1) == ((rd_T57 l1_1 x6_3).f1)) || (!(((rd_T57 l0_1 x6_3).f2) == ((rd_T57 l1_1 x6_3).f2))))) = false := by simpa using c37
             clear c37
             have H' := asd H
             clear H
             have hnb41 := NB225_226.out
             have hnc41 := NB226_225.out
             have hcz42_0 : wr.cell? ⟨gb225, 0, none⟩ = some (.slice A0_0 l0_0.length c0_0) := (blk_cell BK225.out 0).trans rfl
             have hcz42_1 : wr.cell? ⟨gb225, 1, none⟩ = some (.slice A0_1 l0_1.length c0_1) := (blk_cell BK225.out 1).trans rfl
             have hcz42_2 : wr.cell? ⟨gb225, 2, none⟩ = some (.slice A0_2 l0_2.length c0_2) := (blk_cell BK225.out 2).trans rfl
             have hcz42_3 : wr.cell? ⟨gb225, 3, none⟩ = some (.int .u8 a0_3) := (blk_cell BK225.out 3).trans rfl
             have hcz42_4 : wr.cell? ⟨gb225, 4, none⟩ = some (.int .u8 a0_4) := (blk_cell BK225.out 4).trans rfl
             have hcz42_5 : wr.cell? ⟨gb225, 5, none⟩ = some (.int .u8 a0_5) := (blk_cell BK225.out 5).trans rfl
             have hfz42_0 := blk_frozen BK225.out 0
             have hfz42_1 := blk_frozen BK225.out 1
             have hfz42_2 := blk_frozen BK225.out 2
             have hfz42_3 := blk_frozen BK225.out 3
             have hfz42_4 := blk_frozen BK225.out 4
             have hfz42_5 := blk_frozen BK225.out 5
             have p229 : 0 ≤ (x6_3 : Int) := of_decide_eq_true (by assumption)
             have q229 : x6_3 < (l0_1.length : Int) := of_decide_eq_true (by assumption)
             obtain ⟨ad229, e229, hx229_0, hx229_1, hx229_2⟩ := at_T57 HR0_1.out x6_3 p229 q229
             cases e229
             replace hx229_0 := (HB.out.cell (World.block_lt_of_cell? w _ hx229_0)).trans hx229_0
             replace hx229_1 := (HB.out.cell (World.block_lt_of_cell? w _ hx229_1)).trans hx229_1
             replace hx229_2 := (HB.out.cell (World.block_lt_of_cell? w _ hx229_2)).trans hx229_2
             replace p229 := eq_true p229
             replace q229 := eq_true q229
             have hcz43_0 : wr.cell? ⟨gb226, 0, none⟩ = some (.slice A1_0 l1_0.length c1_0) := (blk_cell BK226.out 0).trans rfl
             have hcz43_1 : wr.cell? ⟨gb226, 1, none⟩ = some (.slice A1_1 l1_1.length c1_1) := (blk_cell BK226.out 1).trans rfl
             have hcz43_2 : wr.cell? ⟨gb226, 2, none⟩ = some (.slice A1_2 l1_2.length c1_2) := (blk_cell BK226.out 2).trans rfl
             have hcz43_3 : wr.cell? ⟨gb226, 3, none⟩ = some (.int .u8 a1_3) := (blk_cell BK226.out 3).trans rfl
             have hcz43_4 : wr.cell? ⟨gb226, 4, none⟩ = some (.int .u8 a1_4) := (blk_cell BK226.out 4).trans rfl
             have hcz43_5 : wr.cell? ⟨gb226, 5, none⟩ = some (.int .u8 a1_5) := (blk_cell BK226.out 5).trans rfl
             have hfz43_0 := blk_frozen BK226.out 0
             have hfz43_1 := blk_frozen BK226.out 1
             have hfz43_2 := blk_frozen BK226.out 2
             have hfz43_3 := blk_frozen BK226.out 3
             have hfz43_4 := blk_frozen BK226.out 4
             have hfz43_5 := blk_frozen BK226.out 5
             have p230 : 0 ≤ (x6_3 : Int) := of_decide_eq_true (by assumption)
             have q230 : x6_3 < (l1_1.length : Int) := of_decide_eq_true (by assumption)
             obtain ⟨ad230, e230, hx230_0, hx230_1, hx230_2⟩ := at_T57 HR1_1.out x6_3 p230 q230
             cases e230
             replace hx230_0 := (HB.out.cell (World.block_lt_of_cell? w _ hx230_0)).trans hx230_0
             replace hx230_1 := (HB.out.cell (World.block_lt_of_cell? w _ hx230_1)).trans hx230_1
             replace hx230_2 := (HB.out.cell (World.block_lt_of_cell? w _ hx230_2)).trans hx230_2
             replace p230 := eq_true p230
             replace q230 := eq_true q230
             go_wp2
             repeat (go_quiet (fail); try go_wp2)
             go_roundg k3
             case measure => have := HJ2.out; have := HK2.out; have := HK3.out; omega
             case rel => exact ⟨(wrap64 (x6_3 + 1)), (by first | rfl | (simp; done) | (simp [*]; done)), H', ⟨by have := HJ2.out; have := HK2.out; have := HK3.out; omega⟩, ⟨by (with_reducible repeat first | apply bn | apply bd | apply ba); exact BK225.out⟩, ⟨by (with_reducible repeat first | apply bn | apply bd | apply ba); exact BK226.out⟩, ⟨by repeat (first | (with_reducible first | exact HB.out | apply wa | apply wn | apply wd | refine ws ?_ GE225.out | refine ws ?_ GE226.out) | exact HB.out)⟩⟩
           ·rw [if_neg c36] at H
            exact absurd H (by simp)
          ·rw [if_neg c35] at H
           exact absurd H (by simp)
         ·rw [if_neg c34] at H
          have c34b0 : decide (x6_3 < (l0_1.length : Int)) = false := decide_eq_false c34
          clear c34
          have H' := asd H
          clear H
          have hnb44 := NB225_226.out
          have hnc44 := NB226_225.out
          have hcz45_0 : wr.cell? ⟨gb225, 0, none⟩ = some (.slice A0_0 l0_0.length c0_0) := (blk_cell BK225.out 0).trans rfl
          have hcz45_1 : wr.cell? ⟨gb225, 1, none⟩ = some (.slice A0_1 l0_1.length c0_1) := (blk_cell BK225.out 1).trans rfl
          have hcz45_2 : wr.cell? ⟨gb225, 2, none⟩ = some (.slice A0_2 l0_2.length c0_2) := (blk_cell BK225.out 2).trans rfl
          have hcz45_3 : wr.cell? ⟨gb225, 3, none⟩ = some (.int .u8 a0_3) := (blk_cell BK225.out 3).trans rfl
          have hcz45_4 : wr.cell? ⟨gb225, 4, none⟩ = some (.int .u8 a0_4) := (blk_cell BK225.out 4).trans rfl
          have hcz45_5 : wr.cell? ⟨gb225, 5, none⟩ = some (.int .u8 a0_5) := (blk_cell BK225.out 5).trans rfl
          have hfz45_0 := blk_frozen BK225.out 0
          have hfz45_1 := blk_frozen BK225.out 1
          have hfz45_2 := blk_frozen BK225.out 2
          have hfz45_3 := blk_frozen BK225.out 3
          have hfz45_4 := blk_frozen BK225.out 4
          have hfz45_5 := blk_frozen BK225.out 5
          go_wp2
          repeat (go_quiet (fail); try go_wp2)
          go_loopg [7] k3 (fun kq v7 w' => ∃ (x7_4 : Int), v7 = .int .i64 x7_4 ∧ Aside0 (parcloseref03_samePart.l2 kq x7_4 l0_0 l0_1 l0_2 a0_3 a0_4 a0_5 l1_0 l1_1 l1_2 a1_3 a1_4 a1_5 = some r) ∧ Aside0 (kq ≤ k3) ∧ Aside0 (w'.heap[gb225]? = some (.cells #[(.slice A0_0 l0_0.length c0_0), (.slice A0_1 l0_1.length c0_1), (.slice A0_2 l0_2.length c0_2), .int .u8 a0_3, .int .u8 a0_4, .int .u8 a0_5] 61 (0, 0))) ∧ Aside0 (w'.heap[gb226]? = some (.cells #[(.slice A1_0 l1_0.length c1_0), (.slice A1_1 l1_1.length c1_1), (.slice A1_2 l1_2.length c1_2), .int .u8 a1_3, .int .u8 a1_4, .int .u8 a1_5] 61 (0, 0))) ∧ Aside0 (Below w.heap.size w w'))
          case atStart => exact ⟨(0), (by first | rfl | (simp; done) | (simp [*]; done)), H', ⟨Nat.le_refl _⟩, ⟨by (with_reducible repeat first | apply bn | apply bd | apply ba); exact BK225.out⟩, ⟨by (with_reducible repeat first | apply bn | apply bd | apply ba); exact BK226.out⟩, ⟨by repeat (first | (with_reducible first | exact HB.out | apply wa | apply wn | apply wd | refine ws ?_ GE225.out | refine ws ?_ GE226.out) | exact HB.out)⟩⟩
          case round =>
           clear H'
           try clear c1
           try clear c2
           try clear p2
           try clear q2
           try clear hx2
           try clear c3
           try clear c4
           try clear c5
           try clear c6
           try clear c6b0
           try clear c6b1
           try clear c6b2
           try clear p6
           try clear c7
           try clear c7b0
           try clear c7b1
           try clear c7b2
           try clear c8
           try clear c8b0
           try clear c8b1
           try clear c8b2
           try clear c9
           try clear c12
           try clear c15
           try clear c18
           try clear c21
           try clear c22
           try clear c22b0
           try clear p22
           try clear q22
           try clear hx22
           try clear c23
           try clear c23b0
           try clear p23
           try clear q23
           try clear hx23
           try clear c24
           try clear c24b0
           try clear c25
           try clear c25b0
           try clear c26
           try clear c29
           try clear c32
           try clear c34
           try clear c34b0
           try clear c35
           try clear c35b0
           try clear c36
           try clear c36b0
           try clear c37
           try clear c37b0
           try clear c38
           try clear c41
           try clear c44
           try clear hcz10_0
           try clear hcz10_1
           try clear hcz10_2
           try clear hcz10_3
           try clear hcz10_4
           try clear hcz10_5
           try clear hcz11_0
           try clear hcz11_1
           try clear hcz11_2
           try clear hcz11_3
           try clear hcz11_4
           try clear hcz11_5
           try clear hcz13_0
           try clear hcz13_1
           try clear hcz13_2
           try clear hcz13_3
           try clear hcz13_4
           try clear hcz13_5
           try clear hcz14_0
           try clear hcz14_1
           try clear hcz14_2
           try clear hcz14_3
           try clear hcz14_4
           try clear hcz14_5
           try clear hcz16_0
           try clear hcz16_1
           try clear hcz16_2
           try clear hcz16_3
           try clear hcz16_4
           try clear hcz16_5
           try clear hcz17_0
           try clear hcz17_1
           try clear hcz17_2
           try clear hcz17_3
           try clear hcz17_4
           try clear hcz17_5
           try clear hcz19_0
           try clear hcz19_1
           try clear hcz19_2
           try clear hcz19_3
           try clear hcz19_4
           try clear hcz19_5
           try clear hcz20_0
           try clear hcz20_1
           try clear hcz20_2
           try clear hcz20_3
           try clear hcz20_4
           try clear hcz20_5
           try clear hcz27_0
           try clear hcz27_1
           try clear hcz27_2
           try clear hcz27_3
           try clear hcz27_4
           try clear hcz27_5
           try clear hcz28_0
           try clear hcz28_1
           try clear hcz28_2
           try clear hcz28_3
           try clear hcz28_4
           try clear hcz28_5
           try clear hcz30_0
           try clear hcz30_1
           try clear hcz30_2
           try clear hcz30_3
           try clear hcz30_4
           try clear hcz30_5
           try clear hcz31_0
           try clear hcz31_1
           try clear hcz31_2
           try clear hcz31_3
           try clear hcz31_4
           try clear hcz31_5
           try clear hcz33_0
           try clear hcz33_1
           try clear hcz33_2
           try clear hcz33_3
           try clear hcz33_4
           try clear hcz33_5
           try clear hcz39_0
           try clear hcz39_1
           try clear hcz39_2
           try clear hcz39_3
           try clear hcz39_4
           try clear hcz39_5
           try clear hcz40_0
           try clear hcz40_1
           try clear hcz40_2
           try clear hcz40_3
           try clear hcz40_4
           try clear hcz40_5
           try clear hcz42_0
           try clear hcz42_1
           try clear hcz42_2
           try clear hcz42_3
           try clear hcz42_4
           try clear hcz42_5
           try clear hcz43_0
           try clear hcz43_1
           try clear hcz43_2
           try clear hcz43_3
           try clear hcz43_4
           try clear hcz43_5
           try clear hcz45_0
           try clear hcz45_1
           try clear hcz45_2
           try clear hcz45_3
           try clear hcz45_4
           try clear hcz45_5
           try clear hfz10_0
           try clear hfz10_1
           try clear hfz10_2
           try clear hfz10_3
           try clear hfz10_4
           try clear hfz10_5
           try clear hfz11_0
           try clear hfz11_1
           try clear hfz11_2
           try clear hfz11_3
           try clear hfz11_4
           try clear hfz11_5
           try clear hfz13_0
           try clear hfz13_1
           try clear hfz13_2
           try clear hfz13_3
           try clear hfz13_4
           try clear hfz13_5
           try clear hfz14_0
           try clear hfz14_1
           try clear hfz14_2
           try clear hfz14_3
           try clear hfz14_4
           try clear hfz14_5
           try clear hfz16_0
           try clear hfz16_1
           try clear hfz16_2
           try clear hfz16_3
           try clear hfz16_4
           try clear hfz16_5
           try clear hfz17_0
           try clear hfz17_1
           try clear hfz17_2
           try clear hfz17_3
           try clear hfz17_4
           try clear hfz17_5
           try clear hfz19_0
           try clear hfz19_1
           try clear hfz19_2
           try clear hfz19_3
           try clear hfz19_4
           try clear hfz19_5
           try clear hfz20_0
           try clear hfz20_1
           try clear hfz20_2
           try clear hfz20_3
           try clear hfz20_4
           try clear hfz20_5
           try clear hfz27_0
           try clear hfz27_1
           try clear hfz27_2
           try clear hfz27_3
           try clear hfz27_4
           try clear hfz27_5
           try clear hfz28_0
           try clear hfz28_1
           try clear hfz28_2
           try clear hfz28_3
           try clear hfz28_4
           try clear hfz28_5
           try clear hfz30_0
           try clear hfz30_1
           try clear hfz30_2
           try clear hfz30_3
           try clear hfz30_4
           try clear hfz30_5
           try clear hfz31_0
           try clear hfz31_1
           try clear hfz31_2
           try clear hfz31_3
           try clear hfz31_4
           try clear hfz31_5
           try clear hfz33_0
           try clear hfz33_1
           try clear hfz33_2
           try clear hfz33_3
           try clear hfz33_4
           try clear hfz33_5
           try clear hfz39_0
           try clear hfz39_1
           try clear hfz39_2
           try clear hfz39_3
           try clear hfz39_4
           try clear hfz39_5
           try clear hfz40_0
           try clear hfz40_1
           try clear hfz40_2
           try clear hfz40_3
           try clear hfz40_4
           try clear hfz40_5
           try clear hfz42_0
           try clear hfz42_1
           try clear hfz42_2
           try clear hfz42_3
           try clear hfz42_4
           try clear hfz42_5
           try clear hfz43_0
           try clear hfz43_1
           try clear hfz43_2
           try clear hfz43_3
           try clear hfz43_4
           try clear hfz43_5
           try clear hfz45_0
           try clear hfz45_1
           try clear hfz45_2
           try clear hfz45_3
           try clear hfz45_4
           try clear hfz45_5
           try clear hx227_0
           try clear hx227_1
           try clear hx227_2
           try clear hx227_3
           try clear hx227_4
           try clear hx227_5
           try clear hx228_0
           try clear hx228_1
           try clear hx228_2
           try clear hx228_3
           try clear hx228_4
           try clear hx228_5
           try clear hx229_0
           try clear hx229_1
           try clear hx229_2
           try clear hx230_0
           try clear hx230_1
           try clear hx230_2
           try clear p2
           try clear p22
           try clear p227
           try clear p228
           try clear p229
           try clear p230
           try clear p6
           try clear q2
           try clear q22
           try clear q227
           try clear q228
           try clear q229
           try clear q230
           obtain ⟨x7_4, rfl, HA, HK4, BK225, BK226, HB⟩ := hrel
           cases gk with
           | zero => exact absurd HA.out (by simp [parcloseref03_samePart.l2])
           | succ k4 =>
            have H := HA.out
            clear HA
            simp only [parcloseref03_samePart.l2] at H
            by_cases c46 : x7_4 < (l0_2.length : Int)
            ·rw [if_pos c46] at H
             have c46b0 : decide (x7_4 < (l0_2.length : Int)) = true := decide_eq_true c46
             clear c46
             by_cases c47 : 0 ≤ x7_4
             ·rw [if_pos c47] at H
              have c47b0 : decide (0 ≤ x7_4) = true := decide_eq_true c47
              clear c47
              by_cases c48 : x7_4 < (l1_2.length : Int)
              ·rw [if_pos c48] at H
               have c48b0 : decide (x7_4 < (l1_2.length : Int)) = true := decide_eq_true c48
               clear c48
               by_cases c49 : (rd l0_2 x7_4) = (rd l1_2 x7_4)
               ·rw [if_pos c49] at H
                have c49b0 : ((rd l0_2 x7_4) == (rd l1_2 x7_4)) = true := beq_iff_eq.mpr c49
                have c49b1 : ((rd l0_2 x7_4) != (rd l1_2 x7_4)) = false := bne_eq_false_iff_eq.mpr c49
                clear c49
                have H' := asd H
                clear H
                have hnb50 := NB225_226.out
                have hnc50 := NB226_225.out
                have hcz51_0 : wr.cell? ⟨gb225, 0, none⟩ = some (.slice A0_0 l0_0.length c0_0) := (blk_cell BK225.out 0).trans rfl
                have hcz51_1 : wr.cell? ⟨gb225, 1, none⟩ = some (.slice A0_1 l0_1.length c0_1) := (blk_cell BK225.out 1).trans rfl
                have hcz51_2 : wr.cell? ⟨gb225, 2, none⟩ = some (.slice A0_2 l0_2.length c0_2) := (blk_cell BK225.out 2).trans rfl
                have hcz51_3 : wr.cell? ⟨gb225, 3, none⟩ = some (.int .u8 a0_3) := (blk_cell BK225.out 3).trans rfl
                have hcz51_4 : wr.cell? ⟨gb225, 4, none⟩ = some (.int .u8 a0_4) := (blk_cell BK225.out 4).trans rfl
                have hcz51_5 : wr.cell? ⟨gb225, 5, none⟩ = some (.int .u8 a0_5) := (blk_cell BK225.out 5).trans rfl
                have hfz51_0 := blk_frozen BK225.out 0
                have hfz51_1 := blk_frozen BK225.out 1
                have hfz51_2 := blk_frozen BK225.out 2
                have hfz51_3 := blk_frozen BK225.out 3
                have hfz51_4 := blk_frozen BK225.out 4
                have hfz51_5 := blk_frozen BK225.out 5
                have p231 : 0 ≤ (x7_4 : Int) := of_decide_eq_true (by assumption)
                have q231 : x7_4 < (l0_2.length : Int) := of_decide_eq_true (by assumption)
                obtain ⟨ad231, e231, hx231_0⟩ := Kd.at_int HR0_2.out x7_4 p231 q231
                cases e231
                replace hx231_0 := (HB.out.cell (World.block_lt_of_cell? w _ hx231_0)).trans hx231_0
                replace p231 := eq_true p231
                replace q231 := eq_true q231
                have hcz52_0 : wr.cell? ⟨gb226, 0, none⟩ = some (.slice A1_0 l1_0.length c1_0) := (blk_cell BK226.out 0).trans rfl
                have hcz52_1 : wr.cell? ⟨gb226, 1, none⟩ = some (.slice A1_1 l1_1.length c1_1) := (blk_cell BK226.out 1).trans rfl
                have hcz52_2 : wr.cell? ⟨gb226, 2, none⟩ = some (.slice A1_2 l1_2.length c1_2) := (blk_cell BK226.out 2).trans rfl
                have hcz52_3 : wr.cell? ⟨gb226, 3, none⟩ = some (.int .u8 a1_3) := (blk_cell BK226.out 3).trans rfl
                have hcz52_4 : wr.cell? ⟨gb226, 4, none⟩ = some (.int .u8 a1_4) := (blk_cell BK226.out 4).trans rfl
                have hcz52_5 : wr.cell? ⟨gb226, 5, none⟩ = some (.int .u8 a1_5) := (blk_cell BK226.out 5).trans rfl
                have hfz52_0 := blk_frozen BK226.out 0
                have hfz52_1 := blk_frozen BK226.out 1
                have hfz52_2 := blk_frozen BK226.out 2
                have hfz52_3 := blk_frozen BK226.out 3
                have hfz52_4 := blk_frozen BK226.out 4
                have hfz52_5 := blk_frozen BK226.out 5
                have p232 : 0 ≤ (x7_4 : Int) := of_decide_eq_true (by assumption)
                have q232 : x7_4 < (l1_2.length : Int) := of_decide_eq_true (by assumption)
                obtain ⟨ad232, e232, hx232_0⟩ := Kd.at_int HR1_2.out x7_4 p232 q232
                cases e232
                replace hx232_0 := (HB.out.cell (World.block_lt_of_cell? w _ hx232_0)).trans hx232_0
                replace p232 := eq_true p232
                replace q232 := eq_true q232
                go_wp2
                repeat (go_quiet (fail); try go_wp2)
                go_roundg k4
                case measure => have := HJ2.out; have := HK2.out; have := HK3.out; have := HK4.out; omega
                case rel => exact ⟨(wrap64 (x7_4 + 1)), (by first | rfl | (simp; done) | (simp [*]; done)), H', ⟨by have := HJ2.out; have := HK2.out; have := HK3.out; have := HK4.out; omega⟩, ⟨by (with_reducible repeat first | apply bn | apply bd | apply ba); exact BK225.out⟩, ⟨by (with_reducible repeat first | apply bn | apply bd | apply ba); exact BK226.out⟩, ⟨by repeat (first | (with_reducible first | exact HB.out | apply wa | apply wn | apply wd | refine ws ?_ GE225.out | refine ws ?_ GE226.out) | exact HB.out)⟩⟩
               ·rw [if_neg c49] at H
                have c49b0 : ((rd l0_2 x7_4) == (rd l1_2 x7_4)) = false := beq_eq_false_iff_ne.mpr c49
                have c49b1 : ((rd l0_2 x7_4) != (rd l1_2 x7_4)) = true := bne_iff_ne.mpr c49
                obtain rfl := Option.some.inj H
                have hnb53 := NB225_226.out
                have hnc53 := NB226_225.out
                have hcz54_0 : wr.cell? ⟨gb225, 0, none⟩ = some (.slice A0_0 l0_0.length c0_0) := (blk_cell BK225.out 0).trans rfl
                have hcz54_1 : wr.cell? ⟨gb225, 1, none⟩ = some (.slice A0_1 l0_1.length c0_1) := (blk_cell BK225.out 1).trans rfl
                have hcz54_2 : wr.cell? ⟨gb225, 2, none⟩ = some (.slice A0_2 l0_2.length c0_2) := (blk_cell BK225.out 2).trans rfl
                have hcz54_3 : wr.cell? ⟨gb225, 3, none⟩ = some (.int .u8 a0_3) := (blk_cell BK225.out 3).trans rfl
                have hcz54_4 : wr.cell? ⟨gb225, 4, none⟩ = some (.int .u8 a0_4) := (blk_cell BK225.out 4).trans rfl
                have hcz54_5 : wr.cell? ⟨gb225, 5, none⟩ = some (.int .u8 a0_5) := (blk_cell BK225.out 5).trans rfl
                have hfz54_0 := blk_frozen BK225.out 0
                have hfz54_1 := blk_frozen BK225.out 1
                have hfz54_2 := blk_frozen BK225.out 2
                have hfz54_3 := blk_frozen BK225.out 3
                have hfz54_4 := blk_frozen BK225.out 4
                have hfz54_5 := blk_frozen BK225.out 5
                have p231 : 0 ≤ (x7_4 : Int) := of_decide_eq_true (by assumption)
                have q231 : x7_4 < (l0_2.length : Int) := of_decide_eq_true (by assumption)
                obtain ⟨ad231, e231, hx231_0⟩ := Kd.at_int HR0_2.out x7_4 p231 q231
                cases e231
                replace hx231_0 := (HB.out.cell (World.block_lt_of_cell? w _ hx231_0)).trans hx231_0
                replace p231 := eq_true p231
                replace q231 := eq_true q231
                have hcz55_0 : wr.cell? ⟨gb226, 0, none⟩ = some (.slice A1_0 l1_0.length c1_0) := (blk_cell BK226.out 0).trans rfl
                have hcz55_1 : wr.cell? ⟨gb226, 1, none⟩ = some (.slice A1_1 l1_1.length c1_1) := (blk_cell BK226.out 1).trans rfl
                have hcz55_2 : wr.cell? ⟨gb226, 2, none⟩ = some (.slice A1_2 l1_2.length c1_2) := (blk_cell BK226.out 2).trans rfl
                have hcz55_3 : wr.cell? ⟨gb226, 3, none⟩ = some (.int .u8 a1_3) := (blk_cell BK226.out 3).trans rfl
                have hcz55_4 : wr.cell? ⟨gb226, 4, none⟩ = some (.int .u8 a1_4) := (blk_cell BK226.out 4).trans rfl
                have hcz55_5 : wr.cell? ⟨gb226, 5, none⟩ = some (.int .u8 a1_5) := (blk_cell BK226.out 5).trans rfl
                have hfz55_0 := blk_frozen BK226.out 0
                have hfz55_1 := blk_frozen BK226.out 1
                have hfz55_2 := blk_frozen BK226.out 2
                have hfz55_3 := blk_frozen BK226.out 3
                have hfz55_4 := blk_frozen BK226.out 4
                have hfz55_5 := blk_frozen BK226.out 5
                have p232 : 0 ≤ (x7_4 : Int) := of_decide_eq_true (by assumption)
                have q232 : x7_4 < (l1_2.length : Int) := of_decide_eq_true (by assumption)
                obtain ⟨ad232, e232, hx232_0⟩ := Kd.at_int HR1_2.out x7_4 p232 q232
                cases e232
                replace hx232_0 := (HB.out.cell (World.block_lt_of_cell? w _ hx232_0)).trans hx232_0
                replace p232 := eq_true p232
                replace q232 := eq_true q232
                go_wp2
                repeat (go_quiet (fail); try go_wp2)
                go_ret
                exact ⟨by first | rfl | (simp [*] <;> rfl), by repeat (first | (with_reducible first | exact HB.out | apply wa | apply wn | apply wd | refine ws ?_ GE225.out | refine ws ?_ GE226.out) | exact HB.out)⟩
              ·rw [if_neg c48] at H
               exact absurd H (by simp)
             ·rw [if_neg c47] at H
              exact absurd H (by simp)
            ·rw [if_neg c46] at H
             have c46b0 : decide (x7_4 < (l0_2.length : Int)) = false := decide_eq_false c46
             clear c46
             obtain rfl := Option.some.inj H
             have hnb56 := NB225_226.out
             have hnc56 := NB226_225.out
             have hcz57_0 : wr.cell? ⟨gb225, 0, none⟩ = some (.slice A0_0 l0_0.length c0_0) := (blk_cell BK225.out 0).trans rfl
             have hcz57_1 : wr.cell? ⟨gb225, 1, none⟩ = some (.slice A0_1 l0_1.length c0_1) := (blk_cell BK225.out 1).trans rfl
             have hcz57_2 : wr.cell? ⟨gb225, 2, none⟩ = some (.slice A0_2 l0_2.length c0_2) := (blk_cell BK225.out 2).trans rfl
             have hcz57_3 : wr.cell? ⟨gb225, 3, none⟩ = some (.int .u8 a0_3) := (blk_cell BK225.out 3).trans rfl
             have hcz57_4 : wr.cell? ⟨gb225, 4, none⟩ = some (.int .u8 a0_4) := (blk_cell BK225.out 4).trans rfl
             have hcz57_5 : wr.cell? ⟨gb225, 5, none⟩ = some (.int .u8 a0_5) := (blk_cell BK225.out 5).trans rfl
             have hfz57_0 := blk_frozen BK225.out 0
             have hfz57_1 := blk_frozen BK225.out 1
             have hfz57_2 := blk_frozen BK225.out 2
             have hfz57_3 := blk_frozen BK225.out 3
             have hfz57_4 := blk_frozen BK225.out 4
             have hfz57_5 := blk_frozen BK225.out 5
             go_wp2
             repeat (go_quiet (fail); try go_wp2)
             go_ret
             exact ⟨by first | rfl | (simp [*] <;> rfl), by repeat (first | (with_reducible first | exact HB.out | apply wa | apply wn | apply wd | refine ws ?_ GE225.out | refine ws ?_ GE226.out) | exact HB.out)⟩
end Go.Proofs.Ytmjhnmdmopmfjaa.Fn
