/- Part of the proof of TasksPlays: see the last text. (Words laid by the print, as far as they are named here; walks written by a program of this project; plain laws.) -/
import Derived.Test.YtjekfipaadbbbaaTasksPlaysZ1
namespace Go.Proofs.Ytjekfipaadbbbaa.Fn
open Go.RowKit Go.Proofs.YtjekfipaadbbbaaW.PrintWords Go.Proofs.YtjekfipaadbbbaaW.PrintLast Go.Proofs.YtjekfipaadbbbaaW.PrintMore
attribute [local go_sem] max2_int min2_int max_two min_two max_three min_three max_four min_four
set_option linter.unusedVariables false
set_option linter.unusedSimpArgs false
def conf_Task_Right.f (k : Nat) (a0_0 : Bool) (a0_1 : Int) (a0_2 : Int) (a0_3 : Int) (a0_4 : Int) (a0_5 : Int) : Option (Bool) := (conf_rise.f k (([1, a0_4, a0_3, a0_2, a0_1, 1000] : List Int))).bind fun t128 => (if t128 = true then ((conf_rise.f k (([a0_4, a0_5, a0_2] : List Int))).bind fun t132 => (if t132 = true then (if a0_0 = true then (some true) else (if a0_3 = a0_2 then (some (a0_5 == a0_4)) else (some false))) else (some false))) else (some false))
set_option maxHeartbeats 8000000 in
set_option maxRecDepth 100000 in
theorem conf_Task_Right.calls (k : Nat) (a0_0 : Bool) (a0_1 : Int) (a0_2 : Int) (a0_3 : Int) (a0_4 : Int) (a0_5 : Int) (r : Bool) (w : World) (h : conf_Task_Right.f k a0_0 a0_1 a0_2 a0_3 a0_4 a0_5 = some r) :
  Calls Try.prog 25 #[.agg #[.bool a0_0, .int .i64 a0_1, .int .i64 a0_2, .int .i64 a0_3, .int .i64 a0_4, .int .i64 a0_5]] w fun e w' => e = .returned (.bool r) ∧ Below w.heap.size w w' := by
 have hu45 := Try.underlying45
 have HB := asd (Below.refl w.heap.size w)
 have H : ((conf_rise.f k (([1, a0_4, a0_3, a0_2, a0_1, 1000] : List Int))).bind fun t128 => (if t128 = true then ((conf_rise.f k (([a0_4, a0_5, a0_2] : List Int))).bind fun t132 => (if t132 = true then (if a0_0 = true then (some true) else (if a0_3 = a0_2 then (some (a0_5 == a0_4)) else (some false))) else (some false))) else (some false))) = some r := h
 clear h
 obtain ⟨y125, hy125⟩ : ∃ y_ : List Int, y_ = (([1, a0_4, a0_3, a0_2, a0_1, 1000] : List Int)) := ⟨_, rfl⟩
 replace H : ((conf_rise.f k y125).bind fun t128 => (if t128 = true then ((conf_rise.f k (([a0_4, a0_5, a0_2] : List Int))).bind fun t132 => (if t132 = true then (if a0_0 = true then (some true) else (if a0_3 = a0_2 then (some (a0_5 == a0_4)) else (some false))) else (some false))) else (some false))) = some r := by first | (rw [hy125]; with_reducible exact H) | (have H2_ := (Option.bind_some _ _).symm.trans H; rw [hy125]; with_reducible exact H2_) | (have H2_ := (Option.bind_some _ _).symm.trans H; with_reducible exact H2_) | with_reducible exact H | (rw [hy125]; exact H) | exact H
 have Ny125 := asd hy125
 clear hy125
 replace H := Option.bind_eq_some_iff.mp H
 obtain ⟨t128, A20, H⟩ := H
 replace H : (if t128 = true then ((conf_rise.f k (([a0_4, a0_5, a0_2] : List Int))).bind fun t132 => (if t132 = true then (if a0_0 = true then (some true) else (if a0_3 = a0_2 then (some (a0_5 == a0_4)) else (some false))) else (some false))) else (some false)) = some r := H
 have A2 := asd A20
 clear A20
 by_cases c3 : t128 = true
 ·subst c3
  have H1 : ((conf_rise.f k (([a0_4, a0_5, a0_2] : List Int))).bind fun t132 => (if t132 = true then (if a0_0 = true then (some true) else (if a0_3 = a0_2 then (some (a0_5 == a0_4)) else (some false))) else (some false))) = some r := by rw [if_pos rfl] at H; exact H
  clear H
  have H := H1
  clear H1
  obtain ⟨y129, hy129⟩ : ∃ y_ : List Int, y_ = (([a0_4, a0_5, a0_2] : List Int)) := ⟨_, rfl⟩
  replace H : ((conf_rise.f k y129).bind fun t132 => (if t132 = true then (if a0_0 = true then (some true) else (if a0_3 = a0_2 then (some (a0_5 == a0_4)) else (some false))) else (some false))) = some r := by first | (rw [hy129]; with_reducible exact H) | (have H2_ := (Option.bind_some _ _).symm.trans H; rw [hy129]; with_reducible exact H2_) | (have H2_ := (Option.bind_some _ _).symm.trans H; with_reducible exact H2_) | with_reducible exact H | (rw [hy129]; exact H) | exact H
  have Ny129 := asd hy129
  clear hy129
  replace H := Option.bind_eq_some_iff.mp H
  obtain ⟨t132, A40, H⟩ := H
  replace H : (if t132 = true then (if a0_0 = true then (some true) else (if a0_3 = a0_2 then (some (a0_5 == a0_4)) else (some false))) else (some false)) = some r := H
  have A4 := asd A40
  clear A40
  by_cases c5 : t132 = true
  ·subst c5
   have H1 : (if a0_0 = true then (some true) else (if a0_3 = a0_2 then (some (a0_5 == a0_4)) else (some false))) = some r := by rw [if_pos rfl] at H; exact H
   clear H
   have H := H1
   clear H1
   by_cases c6 : a0_0 = true
   ·subst c6
    have H1 : (some true) = some r := by rw [if_pos rfl] at H; exact H
    clear H
    have H := H1
    clear H1
    obtain rfl := Option.some.inj H
    go_enter Try.func25, Try.ntmps25
    go_wp2_with (first | ((with_reducible refine gate_dst (N := 1) rfl ?_); (try (refine gate_guard (by rfl) ?_; dsimp only)); refine box_event ?hg (N := 1) ?hd (cs := #[.bool true, .int .i64 a0_1, .int .i64 a0_2, .int .i64 a0_3, .int .i64 a0_4, .int .i64 a0_5]) (t := 45) ?hr ?_; (case hd => rfl); (case hg => rfl); (case hr => first | (go_simp; done) | (go_simp; rfl)); intro gb124 hg w7 hbox hb; have n0_ := asd (below_step (by repeat (first | (with_reducible first | exact HB.out | apply wa | apply wn | apply wd) | exact HB.out)) hb); have n1_ := asd (hbox); have n2_ := asd ((by rw [hg]; exact (below_size (by repeat (first | (with_reducible first | exact HB.out | apply wa | apply wn | apply wd) | exact HB.out))) : w.heap.size ≤ gb124)); have n3_ := asd ((by rw [hg]; exact (below_size (by repeat (first | (with_reducible first | exact HB.out | apply wa | apply wn | apply wd) | exact HB.out))) : w.heap.size ≤ gb124)); clear HB; have HB := n0_; have BK124 := n1_; have GW124 := n2_; have GE124 := n3_; clear n0_ n1_ n2_ n3_; clear hb hbox hg; have hcz8_0 : w7.cell? ⟨gb124, 0, none⟩ = some (.bool true) := (blk_cell BK124.out 0).trans rfl; have hcz8_1 : w7.cell? ⟨gb124, 1, none⟩ = some (.int .i64 a0_1) := (blk_cell BK124.out 1).trans rfl; have hcz8_2 : w7.cell? ⟨gb124, 2, none⟩ = some (.int .i64 a0_2) := (blk_cell BK124.out 2).trans rfl; have hcz8_3 : w7.cell? ⟨gb124, 3, none⟩ = some (.int .i64 a0_3) := (blk_cell BK124.out 3).trans rfl; have hcz8_4 : w7.cell? ⟨gb124, 4, none⟩ = some (.int .i64 a0_4) := (blk_cell BK124.out 4).trans rfl; have hcz8_5 : w7.cell? ⟨gb124, 5, none⟩ = some (.int .i64 a0_5) := (blk_cell BK124.out 5).trans rfl; have hfz8_0 := blk_frozen BK124.out 0; have hfz8_1 := blk_frozen BK124.out 1; have hfz8_2 := blk_frozen BK124.out 2; have hfz8_3 := blk_frozen BK124.out 3; have hfz8_4 := blk_frozen BK124.out 4; have hfz8_5 := blk_frozen BK124.out 5) | ((with_reducible refine gate_dst (N := 11) rfl ?_); (try (refine gate_guard (by rfl) ?_; dsimp only)); refine Kd.R_lit (Kd.int .i64) _ 3 ?hg (N := 11) ?hd (xs := ([1, a0_4, a0_3, a0_2, a0_1, 1000] : List Int)) (inner := [.int .i64 1, .int .i64 a0_4, .int .i64 a0_3, .int .i64 a0_2, .int .i64 a0_1, .int .i64 1000]) (ok := fun _ => True) (okp := fun _ => True) ?hr ?hp (fun _ hk => hk) trivial (Below.refl _ _) (Nat.le_refl _) (by simp) ?_; (case hd => rfl); (case hg => rfl); (case hr => first | (go_simp; done) | (go_simp; rfl)); (case hp => exact (Reps.one (show Kd.M (Kd.int .i64) _ _ _ 1 [.int .i64 1] from rfl) (Reps.one (show Kd.M (Kd.int .i64) _ _ _ a0_4 [.int .i64 a0_4] from rfl) (Reps.one (show Kd.M (Kd.int .i64) _ _ _ a0_3 [.int .i64 a0_3] from rfl) (Reps.one (show Kd.M (Kd.int .i64) _ _ _ a0_2 [.int .i64 a0_2] from rfl) (Reps.one (show Kd.M (Kd.int .i64) _ _ _ a0_1 [.int .i64 a0_1] from rfl) (Reps.one (show Kd.M (Kd.int .i64) _ _ _ 1000 [.int .i64 1000] from rfl) (Reps.none _ _)))))))); intro v126 w9 ho10 hb hg_ hnew_; clear hg_ hnew_; (first | rw [← Ny125.out] at ho10 | (simp only [Int.reduceToNat] at ho10; rw [← Ny125.out] at ho10)); have n0_ := asd (Kd.R_lower ho10 (below_size (by repeat (first | (with_reducible first | exact HB.out | apply wa | apply wn | apply wd | refine ws ?_ GE124.out) | exact HB.out)))); have n1_ := asd (blk_below (g := gb124) (o := .cells #[.bool true, .int .i64 a0_1, .int .i64 a0_2, .int .i64 a0_3, .int .i64 a0_4, .int .i64 a0_5] 45 (0, 0)) (by (with_reducible repeat first | apply bn | apply bd | apply ba); exact BK124.out) hb); have n2_ := asd (below_step (by repeat (first | (with_reducible first | exact HB.out | apply wa | apply wn | apply wd | refine ws ?_ GE124.out) | exact HB.out)) hb); clear BK124; clear HB; have HO127 := n0_; have BK124 := n1_; have HB := n2_; clear n0_ n1_ n2_; clear hb ho10; obtain ⟨Ao11, co11, eo11⟩ := Kd.R_slice HO127.out; subst eo11) | ((with_reducible refine gate_callee (f := 71) rfl ?_); refine goesL_ (some 12) rfl rfl Try.func71 (by kernel_rfl) rfl #[.slice Ao11 y125.length co11] rfl (by (try simp only [List.map_toArray, List.map_cons, List.map_nil]); first | done | rfl | (simp only [List.length_drop, List.length_take]; rfl)) ?_; (with_reducible refine (conf_rise.calls k _ _ y125 true _ ?side1 ?side2 A2.out).mono ?_); (case side1 => repeat (first | exact (Kd.R_reads' HO127.out).2.2 | (with_reducible refine Kd.C_alloc ?_ _) | (with_reducible refine Kd.C_drewN ?_ _) | (with_reducible refine Kd.C_drew ?_))); (case side2 => exact (Kd.R_reads' HO127.out).2.1); rintro e w' ⟨rfl, ⟨nd, rfl⟩⟩; refine ⟨_, rfl, ?_⟩; have hcz12_0 : w9.cell? ⟨gb124, 0, none⟩ = some (.bool true) := (blk_cell BK124.out 0).trans rfl; have hcz12_1 : w9.cell? ⟨gb124, 1, none⟩ = some (.int .i64 a0_1) := (blk_cell BK124.out 1).trans rfl; have hcz12_2 : w9.cell? ⟨gb124, 2, none⟩ = some (.int .i64 a0_2) := (blk_cell BK124.out 2).trans rfl; have hcz12_3 : w9.cell? ⟨gb124, 3, none⟩ = some (.int .i64 a0_3) := (blk_cell BK124.out 3).trans rfl; have hcz12_4 : w9.cell? ⟨gb124, 4, none⟩ = some (.int .i64 a0_4) := (blk_cell BK124.out 4).trans rfl; have hcz12_5 : w9.cell? ⟨gb124, 5, none⟩ = some (.int .i64 a0_5) := (blk_cell BK124.out 5).trans rfl; have hfz12_0 := blk_frozen BK124.out 0; have hfz12_1 := blk_frozen BK124.out 1; have hfz12_2 := blk_frozen BK124.out 2; have hfz12_3 := blk_frozen BK124.out 3; have hfz12_4 := blk_frozen BK124.out 4; have hfz12_5 := blk_frozen BK124.out 5) | ((with_reducible refine gate_dst (N := 21) rfl ?_); (try (refine gate_guard (by rfl) ?_; dsimp only)); refine Kd.R_lit (Kd.int .i64) _ 3 ?hg (N := 21) ?hd (xs := ([a0_4, a0_5, a0_2] : List Int)) (inner := [.int .i64 a0_4, .int .i64 a0_5, .int .i64 a0_2]) (ok := fun _ => True) (okp := fun _ => True) ?hr ?hp (fun _ hk => hk) trivial (Below.refl _ _) (Nat.le_refl _) (by simp) ?_; (case hd => rfl); (case hg => rfl); (case hr => first | (go_simp; done) | (go_simp; rfl)); (case hp => exact (Reps.one (show Kd.M (Kd.int .i64) _ _ _ a0_4 [.int .i64 a0_4] from rfl) (Reps.one (show Kd.M (Kd.int .i64) _ _ _ a0_5 [.int .i64 a0_5] from rfl) (Reps.one (show Kd.M (Kd.int .i64) _ _ _ a0_2 [.int .i64 a0_2] from rfl) (Reps.none _ _))))); intro v130 w13 ho14 hb hg_ hnew_; clear hg_ hnew_; (first | rw [← Ny129.out] at ho14 | (simp only [Int.reduceToNat] at ho14; rw [← Ny129.out] at ho14)); have n0_ := asd (Kd.R_elder' (by (with_reducible repeat (first | apply Kd.R_alloc | apply Kd.R_drewN | apply Kd.R_drew)); exact HO127.out) (Kd.R_base ho14) hb); have n1_ := asd (Kd.R_lower (Kd.R_new' ho14 (Kd.R_lt (by (with_reducible repeat (first | apply Kd.R_alloc | apply Kd.R_drewN | apply Kd.R_drew)); exact HO127.out))) (below_size (by repeat (first | (with_reducible first | exact HB.out | apply wa | apply wn | apply wd | refine ws ?_ GE124.out) | exact HB.out)))); have n2_ := asd (blk_below (g := gb124) (o := .cells #[.bool true, .int .i64 a0_1, .int .i64 a0_2, .int .i64 a0_3, .int .i64 a0_4, .int .i64 a0_5] 45 (0, 0)) (by (with_reducible repeat first | apply bn | apply bd | apply ba); exact BK124.out) hb); have n3_ := asd (below_step (by repeat (first | (with_reducible first | exact HB.out | apply wa | apply wn | apply wd | refine ws ?_ GE124.out) | exact HB.out)) hb); clear HO127; clear BK124; clear HB; have HO127 := n0_; have HO131 := n1_; have BK124 := n2_; have HB := n3_; clear n0_ n1_ n2_ n3_; clear hb ho14; obtain ⟨Ao15, co15, eo15⟩ := Kd.R_slice HO131.out; subst eo15) | (go_at_call 71; (with_reducible refine (conf_rise.calls k _ _ y129 true _ ?side1 ?side2 A4.out).mono ?_); (case side1 => repeat (first | exact (Kd.R_reads' HO131.out).2.2 | (with_reducible refine Kd.C_alloc ?_ _) | (with_reducible refine Kd.C_drewN ?_ _) | (with_reducible refine Kd.C_drew ?_))); (case side2 => exact (Kd.R_reads' HO131.out).2.1); rintro e w' ⟨rfl, ⟨nd, rfl⟩⟩; have hcz16_0 : w13.cell? ⟨gb124, 0, none⟩ = some (.bool true) := (blk_cell BK124.out 0).trans rfl; have hcz16_1 : w13.cell? ⟨gb124, 1, none⟩ = some (.int .i64 a0_1) := (blk_cell BK124.out 1).trans rfl; have hcz16_2 : w13.cell? ⟨gb124, 2, none⟩ = some (.int .i64 a0_2) := (blk_cell BK124.out 2).trans rfl; have hcz16_3 : w13.cell? ⟨gb124, 3, none⟩ = some (.int .i64 a0_3) := (blk_cell BK124.out 3).trans rfl; have hcz16_4 : w13.cell? ⟨gb124, 4, none⟩ = some (.int .i64 a0_4) := (blk_cell BK124.out 4).trans rfl; have hcz16_5 : w13.cell? ⟨gb124, 5, none⟩ = some (.int .i64 a0_5) := (blk_cell BK124.out 5).trans rfl; have hfz16_0 := blk_frozen BK124.out 0; have hfz16_1 := blk_frozen BK124.out 1; have hfz16_2 := blk_frozen BK124.out 2; have hfz16_3 := blk_frozen BK124.out 3; have hfz16_4 := blk_frozen BK124.out 4; have hfz16_5 := blk_frozen BK124.out 5))
    go_ret
    exact ⟨by first | rfl | (simp [*] <;> rfl), by repeat (first | (with_reducible first | exact HB.out | apply wa | apply wn | apply wd | refine ws ?_ GE124.out) | exact HB.out)⟩
   ·replace c6 := Bool.eq_false_iff.mpr c6
    subst c6
    have H1 : (if a0_3 = a0_2 then (some (a0_5 == a0_4)) else (some false)) = some r := by rw [if_neg (show ¬ (false = true) by decide)] at H; exact H
    clear H
    have H := H1
    clear H1
    by_cases c17 : a0_3 = a0_2
    ·rw [if_pos c17] at H
     have c17b0 : (a0_3 == a0_2) = true := beq_iff_eq.mpr c17
     have c17b1 : (a0_3 != a0_2) = false := bne_eq_false_iff_eq.mpr c17
     clear c17
     obtain rfl := Option.some.inj H
     go_enter Try.func25, Try.ntmps25
     go_wp2_with (first | ((with_reducible refine gate_dst (N := 1) rfl ?_); (try (refine gate_guard (by rfl) ?_; dsimp only)); refine box_event ?hg (N := 1) ?hd (cs := #[.bool false, .int .i64 a0_1, .int .i64 a0_2, .int .i64 a0_3, .int .i64 a0_4, .int .i64 a0_5]) (t := 45) ?hr ?_; (case hd => rfl); (case hg => rfl); (case hr => first | (go_simp; done) | (go_simp; rfl)); intro gb124 hg w18 hbox hb; have n0_ := asd (below_step (by repeat (first | (with_reducible first | exact HB.out | apply wa | apply wn | apply wd) | exact HB.out)) hb); have n1_ := asd (hbox); have n2_ := asd ((by rw [hg]; exact (below_size (by repeat (first | (with_reducible first | exact HB.out | apply wa | apply wn | apply wd) | exact HB.out))) : w.heap.size ≤ gb124)); have n3_ := asd ((by rw [hg]; exact (below_size (by repeat (first | (with_reducible first | exact HB.out | apply wa | apply wn | apply wd) | exact HB.out))) : w.heap.size ≤ gb124)); clear HB; have HB := n0_; have BK124 := n1_; have GW124 := n2_; have GE124 := n3_; clear n0_ n1_ n2_ n3_; clear hb hbox hg; have hcz19_0 : w18.cell? ⟨gb124, 0, none⟩ = some (.bool false) := (blk_cell BK124.out 0).trans rfl; have hcz19_1 : w18.cell? ⟨gb124, 1, none⟩ = some (.int .i64 a0_1) := (blk_cell BK124.out 1).trans rfl; have hcz19_2 : w18.cell? ⟨gb124, 2, none⟩ = some (.int .i64 a0_2) := (blk_cell BK124.out 2).trans rfl; have hcz19_3 : w18.cell? ⟨gb124, 3, none⟩ = some (.int .i64 a0_3) := (blk_cell BK124.out 3).trans rfl; have hcz19_4 : w18.cell? ⟨gb124, 4, none⟩ = some (.int .i64 a0_4) := (blk_cell BK124.out 4).trans rfl; have hcz19_5 : w18.cell? ⟨gb124, 5, none⟩ = some (.int .i64 a0_5) := (blk_cell BK124.out 5).trans rfl; have hfz19_0 := blk_frozen BK124.out 0; have hfz19_1 := blk_frozen BK124.out 1; have hfz19_2 := blk_frozen BK124.out 2; have hfz19_3 := blk_frozen BK124.out 3; have hfz19_4 := blk_frozen BK124.out 4; have hfz19_5 := blk_frozen BK124.out 5) | ((with_reducible refine gate_dst (N := 11) rfl ?_); (try (refine gate_guard (by rfl) ?_; dsimp only)); refine Kd.R_lit (Kd.int .i64) _ 3 ?hg (N := 11) ?hd (xs := ([1, a0_4, a0_3, a0_2, a0_1, 1000] : List Int)) (inner := [.int .i64 1, .int .i64 a0_4, .int .i64 a0_3, .int .i64 a0_2, .int .i64 a0_1, .int .i64 1000]) (ok := fun _ => True) (okp := fun _ => True) ?hr ?hp (fun _ hk => hk) trivial (Below.refl _ _) (Nat.le_refl _) (by simp) ?_; (case hd => rfl); (case hg => rfl); (case hr => first | (go_simp; done) | (go_simp; rfl)); (case hp => exact (Reps.one (show Kd.M (Kd.int .i64) _ _ _ 1 [.int .i64 1] from rfl) (Reps.one (show Kd.M (Kd.int .i64) _ _ _ a0_4 [.int .i64 a0_4] from rfl) (Reps.one (show Kd.M (Kd.int .i64) _ _ _ a0_3 [.int .i64 a0_3] from rfl) (Reps.one (show Kd.M (Kd.int .i64) _ _ _ a0_2 [.int .i64 a0_2] from rfl) (Reps.one (show Kd.M (Kd.int .i64) _ _ _ a0_1 [.int .i64 a0_1] from rfl) (Reps.one (show Kd.M (Kd.int .i64) _ _ _ 1000 [.int .i64 1000] from rfl) (Reps.none _ _)))))))); intro v126 w20 ho21 hb hg_ hnew_; clear hg_ hnew_; (first | rw [← Ny125.out] at ho21 | (simp only [Int.reduceToNat] at ho21; rw [← Ny125.out] at ho21)); have n0_ := asd (Kd.R_lower ho21 (below_size (by repeat (first | (with_reducible first | exact HB.out | apply wa | apply wn | apply wd | refine ws ?_ GE124.out) | exact HB.out)))); have n1_ := asd (blk_below (g := gb124) (o := .cells #[.bool false, .int .i64 a0_1, .int .i64 a0_2, .int .i64 a0_3, .int .i64 a0_4, .int .i64 a0_5] 45 (0, 0)) (by (with_reducible repeat first | apply bn | apply bd | apply ba); exact BK124.out) hb); have n2_ := asd (below_step (by repeat (first | (with_reducible first | exact HB.out | apply wa | apply wn | apply wd | refine ws ?_ GE124.out) | exact HB.out)) hb); clear BK124; clear HB; have HO127 := n0_; have BK124 := n1_; have HB := n2_; clear n0_ n1_ n2_; clear hb ho21; obtain ⟨Ao22, co22, eo22⟩ := Kd.R_slice HO127.out; subst eo22) | ((with_reducible refine gate_callee (f := 71) rfl ?_); refine goesL_ (some 12) rfl rfl Try.func71 (by kernel_rfl) rfl #[.slice Ao22 y125.length co22] rfl (by (try simp only [List.map_toArray, List.map_cons, List.map_nil]); first | done | rfl | (simp only [List.length_drop, List.length_take]; rfl)) ?_; (with_reducible refine (conf_rise.calls k _ _ y125 true _ ?side1 ?side2 A2.out).mono ?_); (case side1 => repeat (first | exact (Kd.R_reads' HO127.out).2.2 | (with_reducible refine Kd.C_alloc ?_ _) | (with_reducible refine Kd.C_drewN ?_ _) | (with_reducible refine Kd.C_drew ?_))); (case side2 => exact (Kd.R_reads' HO127.out).2.1); rintro e w' ⟨rfl, ⟨nd, rfl⟩⟩; refine ⟨_, rfl, ?_⟩; have hcz23_0 : w20.cell? ⟨gb124, 0, none⟩ = some (.bool false) := (blk_cell BK124.out 0).trans rfl; have hcz23_1 : w20.cell? ⟨gb124, 1, none⟩ = some (.int .i64 a0_1) := (blk_cell BK124.out 1).trans rfl; have hcz23_2 : w20.cell? ⟨gb124, 2, none⟩ = some (.int .i64 a0_2) := (blk_cell BK124.out 2).trans rfl; have hcz23_3 : w20.cell? ⟨gb124, 3, none⟩ = some (.int .i64 a0_3) := (blk_cell BK124.out 3).trans rfl; have hcz23_4 : w20.cell? ⟨gb124, 4, none⟩ = some (.int .i64 a0_4) := (blk_cell BK124.out 4).trans rfl; have hcz23_5 : w20.cell? ⟨gb124, 5, none⟩ = some (.int .i64 a0_5) := (blk_cell BK124.out 5).trans rfl; have hfz23_0 := blk_frozen BK124.out 0; have hfz23_1 := blk_frozen BK124.out 1; have hfz23_2 := blk_frozen BK124.out 2; have hfz23_3 := blk_frozen BK124.out 3; have hfz23_4 := blk_frozen BK124.out 4; have hfz23_5 := blk_frozen BK124.out 5) | ((with_reducible refine gate_dst (N := 21) rfl ?_); (try (refine gate_guard (by rfl) ?_; dsimp only)); refine Kd.R_lit (Kd.int .i64) _ 3 ?hg (N := 21) ?hd (xs := ([a0_4, a0_5, a0_2] : List Int)) (inner := [.int .i64 a0_4, .int .i64 a0_5, .int .i64 a0_2]) (ok := fun _ => True) (okp := fun _ => True) ?hr ?hp (fun _ hk => hk) trivial (Below.refl _ _) (Nat.le_refl _) (by simp) ?_; (case hd => rfl); (case hg => rfl); (case hr => first | (go_simp; done) | (go_simp; rfl)); (case hp => exact (Reps.one (show Kd.M (Kd.int .i64) _ _ _ a0_4 [.int .i64 a0_4] from rfl) (Reps.one (show Kd.M (Kd.int .i64) _ _ _ a0_5 [.int .i64 a0_5] from rfl) (Reps.one (show Kd.M (Kd.int .i64) _ _ _ a0_2 [.int .i64 a0_2] from rfl) (Reps.none _ _))))); intro v130 w24 ho25 hb hg_ hnew_; clear hg_ hnew_; (first | rw [← Ny129.out] at ho25 | (simp only [Int.reduceToNat] at ho25; rw [← Ny129.out] at ho25)); have n0_ := asd (Kd.R_elder' (by (with_reducible repeat (first | apply Kd.R_alloc | apply Kd.R_drewN | apply Kd.R_drew)); exact HO127.out) (Kd.R_base ho25) hb); have n1_ := asd (Kd.R_lower (Kd.R_new' ho25 (Kd.R_lt (by (with_reducible repeat (first | apply Kd.R_alloc | apply Kd.R_drewN | apply Kd.R_drew)); exact HO127.out))) (below_size (by repeat (first | (with_reducible first | exact HB.out | apply wa | apply wn | apply wd | refine ws ?_ GE124.out) | exact HB.out)))); have n2_ := asd (blk_below (g := gb124) (o := .cells #[.bool false, .int .i64 a0_1, .int .i64 a0_2, .int .i64 a0_3, .int .i64 a0_4, .int .i64 a0_5] 45 (0, 0)) (by (with_reducible repeat first | apply bn | apply bd | apply ba); exact BK124.out) hb); have n3_ := asd (below_step (by repeat (first | (with_reducible first | exact HB.out | apply wa | apply wn | apply wd | refine ws ?_ GE124.out) | exact HB.out)) hb); clear HO127; clear BK124; clear HB; have HO127 := n0_; have HO131 := n1_; have BK124 := n2_; have HB := n3_; clear n0_ n1_ n2_ n3_; clear hb ho25; obtain ⟨Ao26, co26, eo26⟩ := Kd.R_slice HO131.out; subst eo26) | (go_at_call 71; (with_reducible refine (conf_rise.calls k _ _ y129 true _ ?side1 ?side2 A4.out).mono ?_); (case side1 => repeat (first | exact (Kd.R_reads' HO131.out).2.2 | (with_reducible refine Kd.C_alloc ?_ _) | (with_reducible refine Kd.C_drewN ?_ _) | (with_reducible refine Kd.C_drew ?_))); (case side2 => exact (Kd.R_reads' HO131.out).2.1); rintro e w' ⟨rfl, ⟨nd, rfl⟩⟩; have hcz27_0 : w24.cell? ⟨gb124, 0, none⟩ = some (.bool false) := (blk_cell BK124.out 0).trans rfl; have hcz27_1 : w24.cell? ⟨gb124, 1, none⟩ = some (.int .i64 a0_1) := (blk_cell BK124.out 1).trans rfl; have hcz27_2 : w24.cell? ⟨gb124, 2, none⟩ = some (.int .i64 a0_2) := (blk_cell BK124.out 2).trans rfl; have hcz27_3 : w24.cell? ⟨gb124, 3, none⟩ = some (.int .i64 a0_3) := (blk_cell BK124.out 3).trans rfl; have hcz27_4 : w24.cell? ⟨gb124, 4, none⟩ = some (.int .i64 a0_4) := (blk_cell BK124.out 4).trans rfl; have hcz27_5 : w24.cell? ⟨gb124, 5, none⟩ = some (.int .i64 a0_5) := (blk_cell BK124.out 5).trans rfl; have hfz27_0 := blk_frozen BK124.out 0; have hfz27_1 := blk_frozen BK124.out 1; have hfz27_2 := blk_frozen BK124.out 2; have hfz27_3 := blk_frozen BK124.out 3; have hfz27_4 := blk_frozen BK124.out 4; have hfz27_5 := blk_frozen BK124.out 5))
     go_ret
     exact ⟨by first | rfl | (simp [*] <;> rfl), by repeat (first | (with_reducible first | exact HB.out | apply wa | apply wn | apply wd | refine ws ?_ GE124.out) | exact HB.out)⟩
    ·rw [if_neg c17] at H
     have c17b0 : (a0_3 == a0_2) = false := beq_eq_false_iff_ne.mpr c17
     have c17b1 : (a0_3 != a0_2) = true := bne_iff_ne.mpr c17
     obtain rfl := Option.some.inj H
     go_enter Try.func25, Try.ntmps25
     go_wp2_with (first | ((with_reducible refine gate_dst (N := 1) rfl ?_); (try (refine gate_guard (by rfl) ?_; dsimp only)); refine box_event ?hg (N := 1) ?hd (cs := #[.bool false, .int .i64 a0_1, .int .i64 a0_2, .int .i64 a0_3, .int .i64 a0_4, .int .i64 a0_5]) (t := 45) ?hr ?_; (case hd => rfl); (case hg => rfl); (case hr => first | (go_simp; done) | (go_simp; rfl)); intro gb124 hg w28 hbox hb; have n0_ := asd (below_step (by repeat (first | (with_reducible first | exact HB.out | apply wa | apply wn | apply wd) | exact HB.out)) hb); have n1_ := asd (hbox); have n2_ := asd ((by rw [hg]; exact (below_size (by repeat (first | (with_reducible first | exact HB.out | apply wa | apply wn | apply wd) | exact HB.out))) : w.heap.size ≤ gb124)); have n3_ := asd ((by rw [hg]; exact (below_size (by repeat (first | (with_reducible first | exact HB.out | apply wa | apply wn | apply wd) | exact HB.out))) : w.heap.size ≤ gb124)); clear HB; have HB := n0_; have BK124 := n1_; have GW124 := n2_; have GE124 := n3_; clear n0_ n1_ n2_ n3_; clear hb hbox hg; have hcz29_0 : w28.cell? ⟨gb124, 0, none⟩ = some (.bool false) := (blk_cell BK124.out 0).trans rfl; have hcz29_1 : w28.cell? ⟨gb124, 1, none⟩ = some (.int .i64 a0_1) := (blk_cell BK124.out 1).trans rfl; have hcz29_2 : w28.cell? ⟨gb124, 2, none⟩ = some (.int .i64 a0_2) := (blk_cell BK124.out 2).trans rfl; have hcz29_3 : w28.cell? ⟨gb124, 3, none⟩ = some (.int .i64 a0_3) := (blk_cell BK124.out 3).trans rfl; have hcz29_4 : w28.cell? ⟨gb124, 4, none⟩ = some (.int .i64 a0_4) := (blk_cell BK124.out 4).trans rfl; have hcz29_5 : w28.cell? ⟨gb124, 5, none⟩ = some (.int .i64 a0_5) := (blk_cell BK124.out 5).trans rfl; have hfz29_0 := blk_frozen BK124.out 0; have hfz29_1 := blk_frozen BK124.out 1; have hfz29_2 := blk_frozen BK124.out 2; have hfz29_3 := blk_frozen BK124.out 3; have hfz29_4 := blk_frozen BK124.out 4; have hfz29_5 := blk_frozen BK124.out 5) | ((with_reducible refine gate_dst (N := 11) rfl ?_); (try (refine gate_guard (by rfl) ?_; dsimp only)); refine Kd.R_lit (Kd.int .i64) _ 3 ?hg (N := 11) ?hd (xs := ([1, a0_4, a0_3, a0_2, a0_1, 1000] : List Int)) (inner := [.int .i64 1, .int .i64 a0_4, .int .i64 a0_3, .int .i64 a0_2, .int .i64 a0_1, .int .i64 1000]) (ok := fun _ => True) (okp := fun _ => True) ?hr ?hp (fun _ hk => hk) trivial (Below.refl _ _) (Nat.le_refl _) (by simp) ?_; (case hd => rfl); (case hg => rfl); (case hr => first | (go_simp; done) | (go_simp; rfl)); (case hp => exact (Reps.one (show Kd.M (Kd.int .i64) _ _ _ 1 [.int .i64 1] from rfl) (Reps.one (show Kd.M (Kd.int .i64) _ _ _ a0_4 [.int .i64 a0_4] from rfl) (Reps.one (show Kd.M (Kd.int .i64) _ _ _ a0_3 [.int .i64 a0_3] from rfl) (Reps.one (show Kd.M (Kd.int .i64) _ _ _ a0_2 [.int .i64 a0_2] from rfl) (Reps.one (show Kd.M (Kd.int .i64) _ _ _ a0_1 [.int .i64 a0_1] from rfl) (Reps.one (show Kd.M (Kd.int .i64) _ _ _ 1000 [.int .i64 1000] from rfl) (Reps.none _ _)))))))); intro v126 w30 ho31 hb hg_ hnew_; clear hg_ hnew_; (first | rw [← Ny125.out] at ho31 | (simp only [Int.reduceToNat] at ho31; rw [← Ny125.out] at ho31)); have n0_ := asd (Kd.R_lower ho31 (below_size (by repeat (first | (with_reducible first | exact HB.out | apply wa | apply wn | apply wd | refine ws ?_ GE124.out) | exact HB.out)))); have n1_ := asd (blk_below (g := gb124) (o := .cells #[.bool false, .int .i64 a0_1, .int .i64 a0_2, .int .i64 a0_3, .int .i64 a0_4, .int .i64 a0_5] 45 (0, 0)) (by (with_reducible repeat first | apply bn | apply bd | apply ba); exact BK124.out) hb); have n2_ := asd (below_step (by repeat (first | (with_reducible first | exact HB.out | apply wa | apply wn | apply wd | refine ws ?_ GE124.out) | exact HB.out)) hb); clear BK124; clear HB; have HO127 := n0_; have BK124 := n1_; have HB := n2_; clear n0_ n1_ n2_; clear hb ho31; obtain ⟨Ao32, co32, eo32⟩ := Kd.R_slice HO127.out; subst eo32) | ((with_reducible refine gate_callee (f := 71) rfl ?_); refine goesL_ (some 12) rfl rfl Try.func71 (by kernel_rfl) rfl #[.slice Ao32 y125.length co32] rfl (by (try simp only [List.map_toArray, List.map_cons, List.map_nil]); first | done | rfl | (simp only [List.length_drop, List.length_take]; rfl)) ?_; (with_reducible refine (conf_rise.calls k _ _ y125 true _ ?side1 ?side2 A2.out).mono ?_); (case side1 => repeat (first | exact (Kd.R_reads' HO127.out).2.2 | (with_reducible refine Kd.C_alloc ?_ _) | (with_reducible refine Kd.C_drewN ?_ _) | (with_reducible refine Kd.C_drew ?_))); (case side2 => exact (Kd.R_reads' HO127.out).2.1); rintro e w' ⟨rfl, ⟨nd, rfl⟩⟩; refine ⟨_, rfl, ?_⟩; have hcz33_0 : w30.cell? ⟨gb124, 0, none⟩ = some (.bool false) := (blk_cell BK124.out 0).trans rfl; have hcz33_1 : w30.cell? ⟨gb124, 1, none⟩ = some (.int .i64 a0_1) := (blk_cell BK124.out 1).trans rfl; have hcz33_2 : w30.cell? ⟨gb124, 2, none⟩ = some (.int .i64 a0_2) := (blk_cell BK124.out 2).trans rfl; have hcz33_3 : w30.cell? ⟨gb124, 3, none⟩ = some (.int .i64 a0_3) := (blk_cell BK124.out 3).trans rfl; have hcz33_4 : w30.cell? ⟨gb124, 4, none⟩ = some (.int .i64 a0_4) := (blk_cell BK124.out 4).trans rfl; have hcz33_5 : w30.cell? ⟨gb124, 5, none⟩ = some (.int .i64 a0_5) := (blk_cell BK124.out 5).trans rfl; have hfz33_0 := blk_frozen BK124.out 0; have hfz33_1 := blk_frozen BK124.out 1; have hfz33_2 := blk_frozen BK124.out 2; have hfz33_3 := blk_frozen BK124.out 3; have hfz33_4 := blk_frozen BK124.out 4; have hfz33_5 := blk_frozen BK124.out 5) | ((with_reducible refine gate_dst (N := 21) rfl ?_); (try (refine gate_guard (by rfl) ?_; dsimp only)); refine Kd.R_lit (Kd.int .i64) _ 3 ?hg (N := 21) ?hd (xs := ([a0_4, a0_5, a0_2] : List Int)) (inner := [.int .i64 a0_4, .int .i64 a0_5, .int .i64 a0_2]) (ok := fun _ => True) (okp := fun _ => True) ?hr ?hp (fun _ hk => hk) trivial (Below.refl _ _) (Nat.le_refl _) (by simp) ?_; (case hd => rfl); (case hg => rfl); (case hr => first | (go_simp; done) | (go_simp; rfl)); (case hp => exact (Reps.one (show Kd.M (Kd.int .i64) _ _ _ a0_4 [.int .i64 a0_4] from rfl) (Reps.one (show Kd.M (Kd.int .i64) _ _ _ a0_5 [.int .i64 a0_5] from rfl) (Reps.one (show Kd.M (Kd.int .i64) _ _ _ a0_2 [.int .i64 a0_2] from rfl) (Reps.none _ _))))); intro v130 w34 ho35 hb hg_ hnew_; clear hg_ hnew_; (first | rw [← Ny129.out] at ho35 | (simp only [Int.reduceToNat] at ho35; rw [← Ny129.out] at ho35)); have n0_ := asd (Kd.R_elder' (by (with_reducible repeat (first | apply Kd.R_alloc | apply Kd.R_drewN | apply Kd.R_drew)); exact HO127.out) (Kd.R_base ho35) hb); have n1_ := asd (Kd.R_lower (Kd.R_new' ho35 (Kd.R_lt (by (with_reducible repeat (first | apply Kd.R_alloc | apply Kd.R_drewN | apply Kd.R_drew)); exact HO127.out))) (below_size (by repeat (first | (with_reducible first | exact HB.out | apply wa | apply wn | apply wd | refine ws ?_ GE124.out) | exact HB.out)))); have n2_ := asd (blk_below (g := gb124) (o := .cells #[.bool false, .int .i64 a0_1, .int .i64 a0_2, .int .i64 a0_3, .int .i64 a0_4, .int .i64 a0_5] 45 (0, 0)) (by (with_reducible repeat first | apply bn | apply bd | apply ba); exact BK124.out) hb); have n3_ := asd (below_step (by repeat (first | (with_reducible first | exact HB.out | apply wa | apply wn | apply wd | refine ws ?_ GE124.out) | exact HB.out)) hb); clear HO127; clear BK124; clear HB; have HO127 := n0_; have HO131 := n1_; have BK124 := n2_; have HB := n3_; clear n0_ n1_ n2_ n3_; clear hb ho35; obtain ⟨Ao36, co36, eo36⟩ := Kd.R_slice HO131.out; subst eo36) | (go_at_call 71; (with_reducible refine (conf_rise.calls k _ _ y129 true _ ?side1 ?side2 A4.out).mono ?_); (case side1 => repeat (first | exact (Kd.R_reads' HO131.out).2.2 | (with_reducible refine Kd.C_alloc ?_ _) | (with_reducible refine Kd.C_drewN ?_ _) | (with_reducible refine Kd.C_drew ?_))); (case side2 => exact (Kd.R_reads' HO131.out).2.1); rintro e w' ⟨rfl, ⟨nd, rfl⟩⟩; have hcz37_0 : w34.cell? ⟨gb124, 0, none⟩ = some (.bool false) := (blk_cell BK124.out 0).trans rfl; have hcz37_1 : w34.cell? ⟨gb124, 1, none⟩ = some (.int .i64 a0_1) := (blk_cell BK124.out 1).trans rfl; have hcz37_2 : w34.cell? ⟨gb124, 2, none⟩ = some (.int .i64 a0_2) := (blk_cell BK124.out 2).trans rfl; have hcz37_3 : w34.cell? ⟨gb124, 3, none⟩ = some (.int .i64 a0_3) := (blk_cell BK124.out 3).trans rfl; have hcz37_4 : w34.cell? ⟨gb124, 4, none⟩ = some (.int .i64 a0_4) := (blk_cell BK124.out 4).trans rfl; have hcz37_5 : w34.cell? ⟨gb124, 5, none⟩ = some (.int .i64 a0_5) := (blk_cell BK124.out 5).trans rfl; have hfz37_0 := blk_frozen BK124.out 0; have hfz37_1 := blk_frozen BK124.out 1; have hfz37_2 := blk_frozen BK124.out 2; have hfz37_3 := blk_frozen BK124.out 3; have hfz37_4 := blk_frozen BK124.out 4; have hfz37_5 := blk_frozen BK124.out 5))
     go_ret
     exact ⟨by first | rfl | (simp [*] <;> rfl), by repeat (first | (with_reducible first | exact HB.out | apply wa | apply wn | apply wd | refine ws ?_ GE124.out) | exact HB.out)⟩
  ·replace c5 := Bool.eq_false_iff.mpr c5
   subst c5
   have H1 : (some false) = some r := by rw [if_neg (show ¬ (false = true) by decide)] at H; exact H
   clear H
   have H := H1
   clear H1
   obtain rfl := Option.some.inj H
   go_enter Try.func25, Try.ntmps25
   go_wp2_with (first | ((with_reducible refine gate_dst (N := 1) rfl ?_); (try (refine gate_guard (by rfl) ?_; dsimp only)); refine box_event ?hg (N := 1) ?hd (cs := #[.bool a0_0, .int .i64 a0_1, .int .i64 a0_2, .int .i64 a0_3, .int .i64 a0_4, .int .i64 a0_5]) (t := 45) ?hr ?_; (case hd => rfl); (case hg => rfl); (case hr => first | (go_simp; done) | (go_simp; rfl)); intro gb124 hg w38 hbox hb; have n0_ := asd (below_step (by repeat (first | (with_reducible first | exact HB.out | apply wa | apply wn | apply wd) | exact HB.out)) hb); have n1_ := asd (hbox); have n2_ := asd ((by rw [hg]; exact (below_size (by repeat (first | (with_reducible first | exact HB.out | apply wa | apply wn | apply wd) | exact HB.out))) : w.heap.size ≤ gb124)); have n3_ := asd ((by rw [hg]; exact (below_size (by repeat (first | (with_reducible first | exact HB.out | apply wa | apply wn | apply wd) | exact HB.out))) : w.heap.size ≤ gb124)); clear HB; have HB := n0_; have BK124 := n1_; have GW124 := n2_; have GE124 := n3_; clear n0_ n1_ n2_ n3_; clear hb hbox hg; have hcz39_0 : w38.cell? ⟨gb124, 0, none⟩ = some (.bool a0_0) := (blk_cell BK124.out 0).trans rfl; have hcz39_1 : w38.cell? ⟨gb124, 1, none⟩ = some (.int .i64 a0_1) := (blk_cell BK124.out 1).trans rfl; have hcz39_2 : w38.cell? ⟨gb124, 2, none⟩ = some (.int .i64 a0_2) := (blk_cell BK124.out 2).trans rfl; have hcz39_3 : w38.cell? ⟨gb124, 3, none⟩ = some (.int .i64 a0_3) := (blk_cell BK124.out 3).trans rfl; have hcz39_4 : w38.cell? ⟨gb124, 4, none⟩ = some (.int .i64 a0_4) := (blk_cell BK124.out 4).trans rfl; have hcz39_5 : w38.cell? ⟨gb124, 5, none⟩ = some (.int .i64 a0_5) := (blk_cell BK124.out 5).trans rfl; have hfz39_0 := blk_frozen BK124.out 0; have hfz39_1 := blk_frozen BK124.out 1; have hfz39_2 := blk_frozen BK124.out 2; have hfz39_3 := blk_frozen BK124.out 3; have hfz39_4 := blk_frozen BK124.out 4; have hfz39_5 := blk_frozen BK124.out 5) | ((with_reducible refine gate_dst (N := 11) rfl ?_); (try (refine gate_guard (by rfl) ?_; dsimp only)); refine Kd.R_lit (Kd.int .i64) _ 3 ?hg (N := 11) ?hd (xs := ([1, a0_4, a0_3, a0_2, a0_1, 1000] : List Int)) (inner := [.int .i64 1, .int .i64 a0_4, .int .i64 a0_3, .int .i64 a0_2, .int .i64 a0_1, .int .i64 1000]) (ok := fun _ => True) (okp := fun _ => True) ?hr ?hp (fun _ hk => hk) trivial (Below.refl _ _) (Nat.le_refl _) (by simp) ?_; (case hd => rfl); (case hg => rfl); (case hr => first | (go_simp; done) | (go_simp; rfl)); (case hp => exact (Reps.one (show Kd.M (Kd.int .i64) _ _ _ 1 [.int .i64 1] from rfl) (Reps.one (show Kd.M (Kd.int .i64) _ _ _ a0_4 [.int .i64 a0_4] from rfl) (Reps.one (show Kd.M (Kd.int .i64) _ _ _ a0_3 [.int .i64 a0_3] from rfl) (Reps.one (show Kd.M (Kd.int .i64) _ _ _ a0_2 [.int .i64 a0_2] from rfl) (Reps.one (show Kd.M (Kd.int .i64) _ _ _ a0_1 [.int .i64 a0_1] from rfl) (Reps.one (show Kd.M (Kd.int .i64) _ _ _ 1000 [.int .i64 1000] from rfl) (Reps.none _ _)))))))); intro v126 w40 ho41 hb hg_ hnew_; clear hg_ hnew_; (first | rw [← Ny125.out] at ho41 | (simp only [Int.reduceToNat] at ho41; rw [← Ny125.out] at ho41)); have n0_ := asd (Kd.R_lower ho41 (below_size (by repeat (first | (with_reducible first | exact HB.out | apply wa | apply wn | apply wd | refine ws ?_ GE124.out) | exact HB.out)))); have n1_ := asd (blk_below (g := gb124) (o := .cells #[.bool a0_0, .int .i64 a0_1, .int .i64 a0_2, .int .i64 a0_3, .int .i64 a0_4, .int .i64 a0_5] 45 (0, 0)) (by (with_reducible repeat first | apply bn | apply bd | apply ba); exact BK124.out) hb); have n2_ := asd (below_step (by repeat (first | (with_reducible first | exact HB.out | apply wa | apply wn | apply wd | refine ws ?_ GE124.out) | exact HB.out)) hb); clear BK124; clear HB; have HO127 := n0_; have BK124 := n1_; have HB := n2_; clear n0_ n1_ n2_; clear hb ho41; obtain ⟨Ao42, co42, eo42⟩ := Kd.R_slice HO127.out; subst eo42) | ((with_reducible refine gate_callee (f := 71) rfl ?_); refine goesL_ (some 12) rfl rfl Try.func71 (by kernel_rfl) rfl #[.slice Ao42 y125.length co42] rfl (by (try simp only [List.map_toArray, List.map_cons, List.map_nil]); first | done | rfl | (simp only [List.length_drop, List.length_take]; rfl)) ?_; (with_reducible refine (conf_rise.calls k _ _ y125 true _ ?side1 ?side2 A2.out).mono ?_); (case side1 => repeat (first | exact (Kd.R_reads' HO127.out).2.2 | (with_reducible refine Kd.C_alloc ?_ _) | (with_reducible refine Kd.C_drewN ?_ _) | (with_reducible refine Kd.C_drew ?_))); (case side2 => exact (Kd.R_reads' HO127.out).2.1); rintro e w' ⟨rfl, ⟨nd, rfl⟩⟩; refine ⟨_, rfl, ?_⟩; have hcz43_0 : w40.cell? ⟨gb124, 0, none⟩ = some (.bool a0_0) := (blk_cell BK124.out 0).trans rfl; have hcz43_1 : w40.cell? ⟨gb124, 1, none⟩ = some (.int .i64 a0_1) := (blk_cell BK124.out 1).trans rfl; have hcz43_2 : w40.cell? ⟨gb124, 2, none⟩ = some (.int .i64 a0_2) := (blk_cell BK124.out 2).trans rfl; have hcz43_3 : w40.cell? ⟨gb124, 3, none⟩ = some (.int .i64 a0_3) := (blk_cell BK124.out 3).trans rfl; have hcz43_4 : w40.cell? ⟨gb124, 4, none⟩ = some (.int .i64 a0_4) := (blk_cell BK124.out 4).trans rfl; have hcz43_5 : w40.cell? ⟨gb124, 5, none⟩ = some (.int .i64 a0_5) := (blk_cell BK124.out 5).trans rfl; have hfz43_0 := blk_frozen BK124.out 0; have hfz43_1 := blk_frozen BK124.out 1; have hfz43_2 := blk_frozen BK124.out 2; have hfz43_3 := blk_frozen BK124.out 3; have hfz43_4 := blk_frozen BK124.out 4; have hfz43_5 := blk_frozen BK124.out 5) | ((with_reducible refine gate_dst (N := 21) rfl ?_); (try (refine gate_guard (by rfl) ?_; dsimp only)); refine Kd.R_lit (Kd.int .i64) _ 3 ?hg (N := 21) ?hd (xs := ([a0_4, a0_5, a0_2] : List Int)) (inner := [.int .i64 a0_4, .int .i64 a0_5, .int .i64 a0_2]) (ok := fun _ => True) (okp := fun _ => True) ?hr ?hp (fun _ hk => hk) trivial (Below.refl _ _) (Nat.le_refl _) (by simp) ?_; (case hd => rfl); (case hg => rfl); (case hr => first | (go_simp; done) | (go_simp; rfl)); (case hp => exact (Reps.one (show Kd.M (Kd.int .i64) _ _ _ a0_4 [.int .i64 a0_4] from rfl) (Reps.one (show Kd.M (Kd.int .i64) _ _ _ a0_5 [.int .i64 a0_5] from rfl) (Reps.one (show Kd.M (Kd.int .i64) _ _ _ a0_2 [.int .i64 a0_2] from rfl) (Reps.none _ _))))); intro v130 w44 ho45 hb hg_ hnew_; clear hg_ hnew_; (first | rw [← Ny129.out] at ho45 | (simp only [Int.reduceToNat] at ho45; rw [← Ny129.out] at ho45)); have n0_ := asd (Kd.R_elder' (by (with_reducible repeat (first | apply Kd.R_alloc | apply Kd.R_drewN | apply Kd.R_drew)); exact HO127.out) (Kd.R_base ho45) hb); have n1_ := asd (Kd.R_lower (Kd.R_new' ho45 (Kd.R_lt (by (with_reducible repeat (first | apply Kd.R_alloc | apply Kd.R_drewN | apply Kd.R_drew)); exact HO127.out))) (below_size (by repeat (first | (with_reducible first | exact HB.out | apply wa | apply wn | apply wd | refine ws ?_ GE124.out) | exact HB.out)))); have n2_ := asd (blk_below (g := gb124) (o := .cells #[.bool a0_0, .int .i64 a0_1, .int .i64 a0_2, .int .i64 a0_3, .int .i64 a0_4, .int .i64 a0_5] 45 (0, 0)) (by (with_reducible repeat first | apply bn | apply bd | apply ba); exact BK124.out) hb); have n3_ := asd (below_step (by repeat (first | (with_reducible first | exact HB.out | apply wa | apply wn | apply wd | refine ws ?_ GE124.out) | exact HB.out)) hb); clear HO127; clear BK124; clear HB; have HO127 := n0_; have HO131 := n1_; have BK124 := n2_; have HB := n3_; clear n0_ n1_ n2_ n3_; clear hb ho45; obtain ⟨Ao46, co46, eo46⟩ := Kd.R_slice HO131.out; subst eo46) | (go_at_call 71; (with_reducible refine (conf_rise.calls k _ _ y129 false _ ?side1 ?side2 A4.out).mono ?_); (case side1 => repeat (first | exact (Kd.R_reads' HO131.out).2.2 | (with_reducible refine Kd.C_alloc ?_ _) | (with_reducible refine Kd.C_drewN ?_ _) | (with_reducible refine Kd.C_drew ?_))); (case side2 => exact (Kd.R_reads' HO131.out).2.1); rintro e w' ⟨rfl, ⟨nd, rfl⟩⟩))
   go_ret
   exact ⟨by first | rfl | (simp [*] <;> rfl), by repeat (first | (with_reducible first | exact HB.out | apply wa | apply wn | apply wd | refine ws ?_ GE124.out) | exact HB.out)⟩
 ·replace c3 := Bool.eq_false_iff.mpr c3
  subst c3
  have H1 : (some false) = some r := by rw [if_neg (show ¬ (false = true) by decide)] at H; exact H
  clear H
  have H := H1
  clear H1
  obtain rfl := Option.some.inj H
  go_enter Try.func25, Try.ntmps25
  go_wp2_with (first | ((with_reducible refine gate_dst (N := 1) rfl ?_); (try (refine gate_guard (by rfl) ?_; dsimp only)); refine box_event ?hg (N := 1) ?hd (cs := #[.bool a0_0, .int .i64 a0_1, .int .i64 a0_2, .int .i64 a0_3, .int .i64 a0_4, .int .i64 a0_5]) (t := 45) ?hr ?_; (case hd => rfl); (case hg => rfl); (case hr => first | (go_simp; done) | (go_simp; rfl)); intro gb124 hg w47 hbox hb; have n0_ := asd (below_step (by repeat (first | (with_reducible first | exact HB.out | apply wa | apply wn | apply wd) | exact HB.out)) hb); have n1_ := asd (hbox); have n2_ := asd ((by rw [hg]; exact (below_size (by repeat (first | (with_reducible first | exact HB.out | apply wa | apply wn | apply wd) | exact HB.out))) : w.heap.size ≤ gb124)); have n3_ := asd ((by rw [hg]; exact (below_size (by repeat (first | (with_reducible first | exact HB.out | apply wa | apply wn | apply wd) | exact HB.out))) : w.heap.size ≤ gb124)); clear HB; have HB := n0_; have BK124 := n1_; have GW124 := n2_; have GE124 := n3_; clear n0_ n1_ n2_ n3_; clear hb hbox hg; have hcz48_0 : w47.cell? ⟨gb124, 0, none⟩ = some (.bool a0_0) := (blk_cell BK124.out 0).trans rfl; have hcz48_1 : w47.cell? ⟨gb124, 1, none⟩ = some (.int .i64 a0_1) := (blk_cell BK124.out 1).trans rfl; have hcz48_2 : w47.cell? ⟨gb124, 2, none⟩ = some (.int .i64 a0_2) := (blk_cell BK124.out 2).trans rfl; have hcz48_3 : w47.cell? ⟨gb124, 3, none⟩ = some (.int .i64 a0_3) := (blk_cell BK124.out 3).trans rfl; have hcz48_4 : w47.cell? ⟨gb124, 4, none⟩ = some (.int .i64 a0_4) := (blk_cell BK124.out 4).trans rfl; have hcz48_5 : w47.cell? ⟨gb124, 5, none⟩ = some (.int .i64 a0_5) := (blk_cell BK124.out 5).trans rfl; have hfz48_0 := blk_frozen BK124.out 0; have hfz48_1 := blk_frozen BK124.out 1; have hfz48_2 := blk_frozen BK124.out 2; have hfz48_3 := blk_frozen BK124.out 3; have hfz48_4 := blk_frozen BK124.out 4; have hfz48_5 := blk_frozen BK124.out 5) | ((with_reducible refine gate_dst (N := 11) rfl ?_); (try (refine gate_guard (by rfl) ?_; dsimp only)); refine Kd.R_lit (Kd.int .i64) _ 3 ?hg (N := 11) ?hd (xs := ([1, a0_4, a0_3, a0_2, a0_1, 1000] : List Int)) (inner := [.int .i64 1, .int .i64 a0_4, .int .i64 a0_3, .int .i64 a0_2, .int .i64 a0_1, .int .i64 1000]) (ok := fun _ => True) (okp := fun _ => True) ?hr ?hp (fun _ hk => hk) trivial (Below.refl _ _) (Nat.le_refl _) (by simp) ?_; (case hd => rfl); (case hg => rfl); (case hr => first | (go_simp; done) | (go_simp; rfl)); (case hp => exact (Reps.one (show Kd.M (Kd.int .i64) _ _ _ 1 [.int .i64 1] from rfl) (Reps.one (show Kd.M (Kd.int .i64) _ _ _ a0_4 [.int .i64 a0_4] from rfl) (Reps.one (show Kd.M (Kd.int .i64) _ _ _ a0_3 [.int .i64 a0_3] from rfl) (Reps.one (show Kd.M (Kd.int .i64) _ _ _ a0_2 [.int .i64 a0_2] from rfl) (Reps.one (show Kd.M (Kd.int .i64) _ _ _ a0_1 [.int .i64 a0_1] from rfl) (Reps.one (show Kd.M (Kd.int .i64) _ _ _ 1000 [.int .i64 1000] from rfl) (Reps.none _ _)))))))); intro v126 w49 ho50 hb hg_ hnew_; clear hg_ hnew_; (first | rw [← Ny125.out] at ho50 | (simp only [Int.reduceToNat] at ho50; rw [← Ny125.out] at ho50)); have n0_ := asd (Kd.R_lower ho50 (below_size (by repeat (first | (with_reducible first | exact HB.out | apply wa | apply wn | apply wd | refine ws ?_ GE124.out) | exact HB.out)))); have n1_ := asd (blk_below (g := gb124) (o := .cells #[.bool a0_0, .int .i64 a0_1, .int .i64 a0_2, .int .i64 a0_3, .int .i64 a0_4, .int .i64 a0_5] 45 (0, 0)) (by (with_reducible repeat first | apply bn | apply bd | apply ba); exact BK124.out) hb); have n2_ := asd (below_step (by repeat (first | (with_reducible first | exact HB.out | apply wa | apply wn | apply wd | refine ws ?_ GE124.out) | exact HB.out)) hb); clear BK124; clear HB; have HO127 := n0_; have BK124 := n1_; have HB := n2_; clear n0_ n1_ n2_; clear hb ho50; obtain ⟨Ao51, co51, eo51⟩ := Kd.R_slice HO127.out; subst eo51) | ((with_reducible refine gate_callee (f := 71) rfl ?_); refine goesL_ (some 12) rfl rfl Try.func71 (by kernel_rfl) rfl #[.slice Ao51 y125.length co51] rfl (by (try simp only [List.map_toArray, List.map_cons, List.map_nil]); first | done | rfl | (simp only [List.length_drop, List.length_take]; rfl)) ?_; (with_reducible refine (conf_rise.calls k _ _ y125 false _ ?side1 ?side2 A2.out).mono ?_); (case side1 => repeat (first | exact (Kd.R_reads' HO127.out).2.2 | (with_reducible refine Kd.C_alloc ?_ _) | (with_reducible refine Kd.C_drewN ?_ _) | (with_reducible refine Kd.C_drew ?_))); (case side2 => exact (Kd.R_reads' HO127.out).2.1); rintro e w' ⟨rfl, ⟨nd, rfl⟩⟩; refine ⟨_, rfl, ?_⟩))
  go_ret
  exact ⟨by first | rfl | (simp [*] <;> rfl), by repeat (first | (with_reducible first | exact HB.out | apply wa | apply wn | apply wd | refine ws ?_ GE124.out) | exact HB.out)⟩
end Go.Proofs.Ytjekfipaadbbbaa.Fn
namespace Go.Proofs.Ytjekfipaadbbbaa.Fn
open Go.RowKit Go.Proofs.YtjekfipaadbbbaaW.PrintWords Go.Proofs.YtjekfipaadbbbaaW.PrintLast Go.Proofs.YtjekfipaadbbbaaW.PrintMore
attribute [local go_sem] max2_int min2_int max_two min_two max_three min_three max_four min_four
set_option linter.unusedVariables false
set_option linter.unusedSimpArgs false
def tasks_New_1.f (k : Nat) (a0_0 : Bool) (a0_1 : Int) (a0_2 : Int) (a0_3 : Int) (a0_4 : Int) (a0_5 : Int) : Option (Bool) := (conf_Task_Right.f k a0_0 a0_1 a0_2 a0_3 a0_4 a0_5).bind fun t228 => (some (!t228))
set_option maxHeartbeats 8000000 in
set_option maxRecDepth 100000 in
theorem tasks_New_1.calls (k : Nat) (a0_0 : Bool) (a0_1 : Int) (a0_2 : Int) (a0_3 : Int) (a0_4 : Int) (a0_5 : Int) (r : Bool) (w : World) (h : tasks_New_1.f k a0_0 a0_1 a0_2 a0_3 a0_4 a0_5 = some r) :
  Calls Try.prog 111 #[.agg #[.bool a0_0, .int .i64 a0_1, .int .i64 a0_2, .int .i64 a0_3, .int .i64 a0_4, .int .i64 a0_5]] w fun e w' => e = .returned (.bool r) ∧ Below w.heap.size w w' := by
 have hu45 := Try.underlying45
 have HB := asd (Below.refl w.heap.size w)
 have H : ((conf_Task_Right.f k a0_0 a0_1 a0_2 a0_3 a0_4 a0_5).bind fun t228 => (some (!t228))) = some r := h
 clear h
 replace H := Option.bind_eq_some_iff.mp H
 obtain ⟨t228, A20, H⟩ := H
 replace H : (some (!t228)) = some r := H
 have A2 := asd A20
 clear A20
 obtain rfl := Option.some.inj H
 go_enter Try.func111, Try.ntmps111
 go_wp2_with (first | ((with_reducible refine gate_dst (N := 1) rfl ?_); refine box_event ?hg (N := 1) ?hd (cs := #[.bool a0_0, .int .i64 a0_1, .int .i64 a0_2, .int .i64 a0_3, .int .i64 a0_4, .int .i64 a0_5]) (t := 45) ?hr ?_; (case hd => rfl); (case hg => rfl); (case hr => first | (go_simp; done) | (go_simp; rfl)); intro gb227 hg w3 hbox hb; have n0_ := asd (below_step (by repeat (first | (with_reducible first | exact HB.out | apply wa | apply wn | apply wd) | exact HB.out)) hb); have n1_ := asd (hbox); have n2_ := asd ((by rw [hg]; exact (below_size (by repeat (first | (with_reducible first | exact HB.out | apply wa | apply wn | apply wd) | exact HB.out))) : w.heap.size ≤ gb227)); have n3_ := asd ((by rw [hg]; exact (below_size (by repeat (first | (with_reducible first | exact HB.out | apply wa | apply wn | apply wd) | exact HB.out))) : w.heap.size ≤ gb227)); clear HB; have HB := n0_; have BK227 := n1_; have GW227 := n2_; have GE227 := n3_; clear n0_ n1_ n2_ n3_; clear hb hbox hg; have hcz4_0 : w3.cell? ⟨gb227, 0, none⟩ = some (.bool a0_0) := (blk_cell BK227.out 0).trans rfl; have hcz4_1 : w3.cell? ⟨gb227, 1, none⟩ = some (.int .i64 a0_1) := (blk_cell BK227.out 1).trans rfl; have hcz4_2 : w3.cell? ⟨gb227, 2, none⟩ = some (.int .i64 a0_2) := (blk_cell BK227.out 2).trans rfl; have hcz4_3 : w3.cell? ⟨gb227, 3, none⟩ = some (.int .i64 a0_3) := (blk_cell BK227.out 3).trans rfl; have hcz4_4 : w3.cell? ⟨gb227, 4, none⟩ = some (.int .i64 a0_4) := (blk_cell BK227.out 4).trans rfl; have hcz4_5 : w3.cell? ⟨gb227, 5, none⟩ = some (.int .i64 a0_5) := (blk_cell BK227.out 5).trans rfl; have hfz4_0 := blk_frozen BK227.out 0; have hfz4_1 := blk_frozen BK227.out 1; have hfz4_2 := blk_frozen BK227.out 2; have hfz4_3 := blk_frozen BK227.out 3; have hfz4_4 := blk_frozen BK227.out 4; have hfz4_5 := blk_frozen BK227.out 5) | ((with_reducible refine gate_callee (f := 25) rfl ?_); refine goesL_ (some 4) rfl rfl Try.func25 (by kernel_rfl) rfl #[.agg #[.bool a0_0, .int .i64 a0_1, .int .i64 a0_2, .int .i64 a0_3, .int .i64 a0_4, .int .i64 a0_5]] rfl (by (try simp only [List.map_toArray, List.map_cons, List.map_nil]); first | done | rfl | (simp only [List.length_drop, List.length_take]; rfl)) ?_; (with_reducible refine (conf_Task_Right.calls k a0_0 a0_1 a0_2 a0_3 a0_4 a0_5 t228 _ A2.out).mono ?_); rintro e w5 ⟨rfl, hb⟩; refine ⟨_, rfl, ?_⟩; have n0_ := asd (blk_below (g := gb227) (o := .cells #[.bool a0_0, .int .i64 a0_1, .int .i64 a0_2, .int .i64 a0_3, .int .i64 a0_4, .int .i64 a0_5] 45 (0, 0)) (by (with_reducible repeat first | apply bn | apply bd | apply ba); exact BK227.out) hb); have n1_ := asd (below_step (by repeat (first | (with_reducible first | exact HB.out | apply wa | apply wn | apply wd | refine ws ?_ GE227.out) | exact HB.out)) hb); clear BK227; clear HB; have BK227 := n0_; have HB := n1_; clear n0_ n1_; (try clear hb); (try clear hb2); (try clear hk); (try clear hi)))
 go_ret
 exact ⟨by first | rfl | (simp [*] <;> rfl), by repeat (first | (with_reducible first | exact HB.out | apply wa | apply wn | apply wd | refine ws ?_ GE227.out) | exact HB.out)⟩
end Go.Proofs.Ytjekfipaadbbbaa.Fn
namespace Go.Proofs.Ytjekfipaadbbbaa.Fn
open Go.RowKit Go.Proofs.YtjekfipaadbbbaaW.PrintWords Go.Proofs.YtjekfipaadbbbaaW.PrintLast Go.Proofs.YtjekfipaadbbbaaW.PrintMore
set_option linter.unusedVariables false
set_option linter.unusedSimpArgs false
theorem less_f (a b : Int) : cmp_Less_int.f a b = some (decide (a < b)) := by
 unfold cmp_Less_int.f cmp_isNaN_int.f
 simp
def srt (l : List Int) : Nat → Bool
 | 0 => true
 | i + 1 => if l.getD (i + 1) 0 < l.getD i 0 then false else srt l i
theorem is_l0 (l : List Int) (hb : l.length < 1000) : ∀ i : Nat, i < l.length → Ev (fun k => slices_IsSorted_int_int.l0 k l (i : Int)) (srt l i) := by
 intro i
 induction i with
 | zero =>
  intro h
  refine Ev.step (f := fun _ => some true) (fun k => by simp only [slices_IsSorted_int_int.l0]; rw [if_neg (by omega)]) ?_
  exact Ev.now _
 | succ i ih =>
  intro h
  have hw : wrap64 (((i + 1 : Nat) : Int) - 1) = (i : Int) := by unfold wrap64; omega
  refine Ev.step (f := fun k => if rd l ((i + 1 : Nat) : Int) < rd l (i : Int) then some false else slices_IsSorted_int_int.l0 k l (i : Int)) (fun k => by
   simp only [slices_IsSorted_int_int.l0]
   rw [if_pos (by omega), if_pos (by omega), if_pos (by omega), hw, if_pos (by omega), if_pos (by omega), less_f]
   by_cases c : rd l ((i + 1 : Nat) : Int) < rd l (i : Int) <;> simp [c]) ?_
  have e1 : rd l ((i + 1 : Nat) : Int) = l.getD (i + 1) 0 := by first | rfl | simp [rd]
  have e2 : rd l (i : Int) = l.getD i 0 := by first | rfl | simp [rd]
  rw [e1, e2]
  unfold srt
  by_cases c : l.getD (i + 1) 0 < l.getD i 0
  ·simp only [c, if_true]; exact Ev.now _
  ·simp only [c, if_false]; exact ih (by omega)
theorem rise_ev (l : List Int) (hb : l.length < 1000) (h0 : 0 < l.length) : Ev (fun k => conf_rise.f k l) (srt l (l.length - 1)) := by
 refine Ev.congr (fun k => by unfold conf_rise.f slices_IsSorted_int_int.f; rw [show wrap64 ((l.length : Int) - 1) = ((l.length - 1 : Nat) : Int) by unfold wrap64; omega]) ?_
 exact Ev.bind (f := fun _ t => some t) (is_l0 l hb _ (by omega)) (Ev.now _)
def rtC (x : S44) : Bool := decide ((1 ≤ x.f4 ∧ x.f4 ≤ x.f3 ∧ x.f3 ≤ x.f2 ∧ x.f2 ≤ x.f1 ∧ x.f1 ≤ 1000) ∧ (x.f4 ≤ x.f5 ∧ x.f5 ≤ x.f2) ∧ (x.f0 = true ∨ x.f3 = x.f2 ∧ x.f5 = x.f4))
theorem rtC_iff (x : S44) : rtC x = true ↔ (1 ≤ x.f4 ∧ x.f4 ≤ x.f3 ∧ x.f3 ≤ x.f2 ∧ x.f2 ≤ x.f1 ∧ x.f1 ≤ 1000) ∧ (x.f4 ≤ x.f5 ∧ x.f5 ≤ x.f2) ∧ (x.f0 = true ∨ x.f3 = x.f2 ∧ x.f5 = x.f4) := by
 unfold rtC; rw [decide_eq_true_iff]
theorem bool_eq {a b : Bool} {P : Prop} (h : a = true ↔ P) (h2 : b = true ↔ P) : a = b := by
 cases a <;> cases b <;> simp_all
theorem srt6 (a b c d e f : Int) : srt [a, b, c, d, e, f] 5 = true ↔ a ≤ b ∧ b ≤ c ∧ c ≤ d ∧ d ≤ e ∧ e ≤ f := by
 simp [srt]; omega
theorem srt3 (a b c : Int) : srt [a, b, c] 2 = true ↔ a ≤ b ∧ b ≤ c := by
 simp [srt]; omega
theorem task_ev (x : S44) : Ev (fun k => conf_Task_Right.f k x.f0 x.f1 x.f2 x.f3 x.f4 x.f5) (rtC x) := by
 refine Ev.congr (fun k => by unfold conf_Task_Right.f; rfl) ?_
 refine Ev.bind (rise_ev _ (by simp) (by simp)) ?_
 have h6 := srt6 1 x.f4 x.f3 x.f2 x.f1 1000
 have h3 := srt3 x.f4 x.f5 x.f2
 have hr := rtC_iff x
 show Ev (fun k => if srt [1, x.f4, x.f3, x.f2, x.f1, 1000] 5 = true then _ else _) _
 cases c6 : srt [1, x.f4, x.f3, x.f2, x.f1, 1000] 5 with
 | false =>
  rw [c6] at h6
  have : rtC x = false := by cases h : rtC x with
   | false => rfl
   | true => have := (hr.1 h).1; exact absurd (h6.2 this) (by simp)
  rw [this]
  exact Ev.some_ (fun k => by simp)
 | true =>
  refine Ev.congr (fun k => by rw [if_pos rfl]) ?_
  refine Ev.bind (rise_ev _ (by simp) (by simp)) ?_
  show Ev (fun k => if srt [x.f4, x.f5, x.f2] 2 = true then _ else _) _
  cases c3 : srt [x.f4, x.f5, x.f2] 2 with
  | false =>
   rw [c3] at h3
   have : rtC x = false := by cases h : rtC x with
    | false => rfl
    | true => have := (hr.1 h).2.1; exact absurd (h3.2 this) (by simp)
   rw [this]
   exact Ev.some_ (fun k => by simp)
  | true =>
   refine Ev.some_ (fun k => ?_)
   rw [if_pos rfl]
   have a6 := h6.1 c6
   have a3 := h3.1 c3
   cases hb : x.f0 with
   | true =>
    rw [if_pos rfl]
    rw [(hr.2 ⟨a6, a3, Or.inl hb⟩ : rtC x = true)]
   | false =>
    rw [if_neg (by decide)]
    by_cases c : x.f3 = x.f2
    ·rw [if_pos c]
     congr 1
     refine bool_eq (P := x.f5 = x.f4) (by simp) (hr.trans ⟨fun h => ?_, fun h => ⟨a6, a3, Or.inr ⟨c, h⟩⟩⟩)
     rcases h.2.2 with h | h
     ·simp [hb] at h
     ·exact h.2
    ·rw [if_neg c]
     congr 1
     symm
     cases h : rtC x with
     | false => rfl
     | true =>
      rcases (hr.1 h).2.2 with h | h
      ·simp [hb] at h
      ·exact absurd h.1 c
theorem tclos_calls (x : S44) (w : World) : Calls Try.prog 111 #[.agg #[.bool x.f0, .int .i64 x.f1, .int .i64 x.f2, .int .i64 x.f3, .int .i64 x.f4, .int .i64 x.f5]] w fun e w' => e = .returned (.bool (!rtC x)) ∧ Below w.heap.size w w' := by
 obtain ⟨k, hk⟩ := (task_ev x).rounds
 exact tasks_New_1.calls k x.f0 x.f1 x.f2 x.f3 x.f4 x.f5 (!rtC x) w (by unfold tasks_New_1.f; rw [hk]; rfl)
theorem all_take {α : Type} (p : α → Bool) (l : List α) (i : Nat) (h : i < l.length) (z : α) : (l.take (i + 1)).all p = ((l.take i).all p && p (l.getD i z)) := by
 rw [List.take_succ_eq_append_getElem h, List.all_append]
 simp [List.getD, h]
theorem all_no {α : Type} (p : α → Bool) (l : List α) (i : Nat) (h : i < l.length) (z : α) (hp : p (l.getD i z) = false) : l.all p = false := by
 rw [List.all_eq_false]
 exact ⟨l[i], List.getElem_mem h, by simpa [List.getD, h] using hp⟩
section
variable (A : Option Addr) (c : Nat) (l : List S44)
set_option maxHeartbeats 2000000 in
set_option maxRecDepth 100000 in
theorem tindex_calls (w : World) (h : Kd.C k44 w A l.length l) (hl : l.length ≤ 1000) :
  Calls Try.prog 108 #[.slice A l.length c, .func (.func 111) #[] #[]] w fun e w' => ∃ r : Int, e = .returned (.int .i64 r) ∧ decide (r ≥ 0) = !(l.all rtC) ∧ Below w.heap.size w w' := by
 have HC := asd h
 have HL := asd hl
 clear h hl
 go_enter Try.func108, Try.ntmps108
 go_wp2
 go_loopw [8] (fun v wr => ∃ x : Int, v = .int .i64 x ∧ Aside0 (0 ≤ x ∧ x ≤ l.length ∧ (l.take x.toNat).all rtC = true) ∧ Aside0 (Below w.heap.size w wr)) (fun v _ => l.length - (intOf v).toNat)
 case atStart => exact ⟨0, rfl, ⟨by omega, by omega, rfl⟩, ⟨Below.refl _ _⟩⟩
 case round =>
  obtain ⟨x, rfl, HX, HB⟩ := hrel
  have h0 : 0 ≤ x := HX.out.1
  have h9 : x ≤ 1000 := by have := HX.out.2.1; have := HL.out; omega
  by_cases hlt : x < (l.length : Int)
  ·have p1 : (0 ≤ x) = True := eq_true h0
   have q1 : (x < (l.length : Int)) = True := eq_true hlt
   have ALL := asd (show (l.take (x + 1).toNat).all rtC = rtC (rd_T44 l x) by
    have e : (x + 1).toNat = x.toNat + 1 := by omega
    rw [e, all_take rtC l x.toNat (by omega) z44, HX.out.2.2]
    simp [rd_T44])
   obtain ⟨ad, rfl, y0, y1, y2, y3, y4, y5⟩ := at_T44 (Kd.C_below HC.out HB.out) x h0 hlt
   cases hb : rtC (rd_T44 l x) with
   | false =>
    have NO := asd (all_no rtC l x.toNat (by omega) z44 (by simpa [rd_T44] using hb))
    have HC1 := asd (tclos_calls (rd_T44 l x))
    rw [hb] at HC1
    clear hb ALL
    go_wp2_with (first | (go_at_call 111; refine (HC1.out _).mono ?_; rintro e w1 ⟨rfl, hb⟩; have HB1 := asd (below_step HB.out hb); clear hb))
    go_ret
    exact ⟨x, rfl, by rw [NO.out]; simpa using h0, HB1.out⟩
   | true =>
    have ALL2 := asd (ALL.out.trans hb)
    have HC1 := asd (tclos_calls (rd_T44 l x))
    rw [hb] at HC1
    clear hb ALL
    go_wp2_with (first | (go_at_call 111; refine (HC1.out _).mono ?_; rintro e w1 ⟨rfl, hb⟩; have HB1 := asd (below_step HB.out hb); clear hb))
    go_roundw
    case rel => exact ⟨x + 1, rfl, ⟨by omega, by omega, ALL2.out⟩, HB1⟩
    case measure => simp [intOf]; omega
  ·have hq : decide (x < (l.length : Int)) = false := decide_eq_false hlt
   have ALL := asd (show l.all rtC = true by have h1 := HX.out; rw [List.take_of_length_le (by omega)] at h1; exact h1.2.2)
   clear hlt HX h0 h9
   go_wp2
   go_ret
   exact ⟨-1, rfl, by rw [ALL.out]; rfl, HB.out⟩
set_option maxHeartbeats 2000000 in
set_option maxRecDepth 100000 in
theorem tcontains_calls (w : World) (h : Kd.C k44 w A l.length l) (hl : l.length ≤ 1000) :
  Calls Try.prog 72 #[.slice A l.length c, .func (.func 111) #[] #[]] w fun e w' => e = .returned (.bool (!(l.all rtC))) ∧ Below w.heap.size w w' := by
 have HC := asd h
 have HL := asd hl
 clear h hl
 go_enter Try.func72, Try.ntmps72
 go_wp2_with (first | (go_at_call 108; refine (tindex_calls A c l _ HC.out HL.out).mono ?_; rintro e w1 ⟨r, rfl, hr, hb⟩; have HB := asd hb; have HR := asd hr; clear hb hr))
 go_ret
 exact ⟨by rw [← HR.out]; rfl, HB.out⟩
end
end Go.Proofs.Ytjekfipaadbbbaa.Fn
namespace Go.Proofs.Ytjekfipaadbbbaa.Fn
open Go.RowKit Go.Proofs.YtjekfipaadbbbaaW.PrintWords Go.Proofs.YtjekfipaadbbbaaW.PrintLast Go.Proofs.YtjekfipaadbbbaaW.PrintMore
set_option linter.unusedVariables false
set_option linter.unusedSimpArgs false
structure JB where
 tsk : Int
 arr : Int
 wrk : Int
 dn : Int
 ops : List S76
structure HD where
 A : Option Addr
 ca : Nat
 ats : List Int
 gp : Nat
 cp : Nat
 pls : List Int
 gd : Nat
 cd : Nat
 dus : List Int
structure TD where
 As : Option Addr
 gs : Nat
 cap : Nat
 gh : Nat
 hi : Bool
 sl : List (S44 × Option Nat)
 jb : Nat → JB
 ov : Nat → Value
 dm : Nat → Bool
 H : HD
def TD.tk (T : TD) (k : Nat) : S44 := (T.sl.getD k zSl).1
def TD.pt (T : TD) (k : Nat) : Option Nat := (T.sl.getD k zSl).2
def TD.js (T : TD) (k : Nat) : Option JB := (T.pt k).map (fun _ => T.jb k)
def TD.S (T : TD) (g k : Nat) : Prop := k = g ∨ (0 < T.sl.length ∧ k = T.gs) ∨ (∃ i, i < T.sl.length ∧ T.pt i = some k) ∨ heapS T.gh T.H.A T.H.gp T.H.gd k
def TD.oS (T : TD) (q : Nat) : Prop := ∃ i, i < T.sl.length ∧ T.pt i ≠ none ∧ (T.ov i).ownBlock = some q
def dueT (hi : Bool) (x : S44) (j : JB) : Int := if hi = true then j.arr + x.f2 else j.arr + x.f3
def budT (hi : Bool) (x : S44) : Int := if hi = true then x.f5 else x.f4
structure JB.ok (j : JB) (k : Nat) : Prop where
 tsk : j.tsk = (k : Int)
 arr : 0 ≤ j.arr ∧ j.arr ≤ 4611686018427387904
 wrk : 1 ≤ j.wrk ∧ j.wrk ≤ 1048576
 dn : 0 ≤ j.dn ∧ j.dn ≤ j.wrk
 ops : j.ops.length ≤ 64
def b2 (o : Option JB) : Nat := if o.isSome = true then 1 else 0
def numJ (f : Nat → Option JB) : Nat := b2 (f 0) + b2 (f 1) + b2 (f 2) + b2 (f 3) + b2 (f 4) + b2 (f 5)
structure TabA (w : World) (base g : Nat) (T : TD) : Prop where
 blk : w.heap[g]? = some (.cells #[.slice T.As T.sl.length T.cap, .pointer (some ⟨T.gh, 0, none⟩), .bool T.hi] 93 (0, 0))
 row : 0 < T.sl.length → T.As = some ⟨T.gs, 0, none⟩ ∧ ∃ rest, w.heap[T.gs]? = some (.cells (slotsV T.sl ++ rest).toArray 131 (0, 0))
 job : ∀ k b, k < T.sl.length → T.pt k = some b → base ≤ b ∧ (T.jb k).ok k ∧ w.heap[b]? = some (.cells #[.int .i64 (T.jb k).tsk, .int .i64 (T.jb k).arr, .int .i64 (T.jb k).wrk, .int .i64 (T.jb k).dn, T.ov k] 69 (0, 0)) ∧ k76.R 76 w base (fun _ => True) (T.ov k) (T.jb k).ops
 inj : ∀ k k' b, k < T.sl.length → k' < T.sl.length → T.pt k = some b → T.pt k' = some b → k = k'
 lg : base ≤ g
 ls : 0 < T.sl.length → base ≤ T.gs
 n6 : T.sl.length ≤ 6
 rt : ∀ k, k < T.sl.length → rtC (T.tk k) = true
structure TabOK (w : World) (base g : Nat) (T : TD) : Prop extends TabA w base g T where
 hp : HOK w base T.gh T.H.A T.H.ca T.H.ats T.H.gp T.H.cp T.H.pls T.H.gd T.H.cd T.H.dus
 pl : T.H.pls.length = 6
 inn : ∀ id : Nat, id < 6 → (T.H.pls.getD id 0 = -1 ↔ T.js id = none)
 due : ∀ (id : Nat) j, T.js id = some j → T.H.dus.getD id 0 = dueT (T.dm id) (T.tk id) j
 cnt : T.H.ats.length = numJ T.js
theorem b2_le (o : Option JB) : b2 o ≤ 1 := by unfold b2; split <;> omega
theorem numJ_le (f : Nat → Option JB) : numJ f ≤ 6 := by
 have h0 := b2_le (f 0)
 have h1 := b2_le (f 1)
 have h2 := b2_le (f 2)
 have h3 := b2_le (f 3)
 have h4 := b2_le (f 4)
 have h5 := b2_le (f 5)
 unfold numJ; omega
theorem numJ_set (f : Nat → Option JB) (k : Nat) (hk : k < 6) (o : Option JB) : numJ (fun i => if i = k then o else f i) + b2 (f k) = numJ f + b2 o := by
 unfold numJ
 rcases (by omega : k = 0 ∨ k = 1 ∨ k = 2 ∨ k = 3 ∨ k = 4 ∨ k = 5) with rfl | rfl | rfl | rfl | rfl | rfl <;> simp <;> omega
section
variable {w w1 : World} {base g : Nat} {T : TD}
theorem TD.pt_ge (T : TD) {k : Nat} (h : T.sl.length ≤ k) : T.pt k = none := by
 unfold TD.pt
 rw [List.getD_eq_getElem?_getD, List.getElem?_eq_none h]; rfl
theorem TD.js_none {T : TD} {k : Nat} : T.js k = none ↔ T.pt k = none := by unfold TD.js; cases T.pt k <;> simp
theorem TD.js_some {T : TD} {k : Nat} {j : JB} (h : T.js k = some j) : k < T.sl.length ∧ j = T.jb k ∧ ∃ b, T.pt k = some b := by
 unfold TD.js at h
 cases hp : T.pt k with
 | none => rw [hp] at h; cases h
 | some b =>
  rw [hp] at h
  refine ⟨?_, (Option.some.inj h).symm, b, rfl⟩
  by_cases hk : k < T.sl.length
  ·exact hk
  ·rw [T.pt_ge (by omega)] at hp; cases hp
theorem TabA.cell (h : TabA w base g T) {k j : Nat} (hk : k < T.sl.length) (hj : j < 7) : w.cell? ⟨T.gs, k * 7 + j, none⟩ = (slotC (T.sl.getD k zSl))[j]? := by
 obtain ⟨_, rest, hb⟩ := h.row (by omega)
 rw [← slots_get T.sl k j hk hj]
 have h1 := blk_cell hb (k * 7 + j)
 rw [h1, List.getElem?_toArray, List.getElem?_append_left (by rw [slotsV_len]; omega)]
theorem TabA.frz (h : TabA w base g T) {i : Nat} (hp : 0 < T.sl.length) : w.frozen? ⟨T.gs, i, none⟩ = false := by
 obtain ⟨_, rest, hb⟩ := h.row hp
 exact blk_frozen hb i
theorem TabA.tie (h : TabA w base g T) {k : Nat} (hk : k < T.sl.length) : (1 ≤ (T.tk k).f4 ∧ (T.tk k).f4 ≤ (T.tk k).f3 ∧ (T.tk k).f3 ≤ (T.tk k).f2 ∧ (T.tk k).f2 ≤ (T.tk k).f1 ∧ (T.tk k).f1 ≤ 1000) ∧ ((T.tk k).f4 ≤ (T.tk k).f5 ∧ (T.tk k).f5 ≤ (T.tk k).f2) := by
 have h1 := (rtC_iff _).1 (h.rt k hk)
 exact ⟨h1.1, h1.2.1⟩
set_option maxHeartbeats 4000000 in
set_option maxRecDepth 100000 in
theorem tnone_calls (h : TabOK w base g T) : Calls Try.prog 84 #[.pointer (some ⟨g, 0, none⟩)] w fun e w' => e = .returned (.bool false) ∧ w = w' := by
 have hu := Try.underlying93
 have hx1 := (blk_cell h.blk 1).trans rfl
 clear h
 go_enter Try.func84, Try.ntmps84
 go_wp2
 go_ret
 exact ⟨rfl, rfl⟩
set_option maxHeartbeats 4000000 in
set_option maxRecDepth 100000 in
theorem tslot_out (h : TabOK w base g T) (k : Int) (hk : ¬ (0 ≤ k ∧ k < T.sl.length)) : Calls Try.prog 80 #[.pointer (some ⟨g, 0, none⟩), .int .i64 k] w fun e w' => e = .returned (.pointer none) ∧ w = w' := by
 have hu := Try.underlying93
 have NC := asd (tnone_calls h)
 have hx0 := (blk_cell h.blk 0).trans rfl
 generalize T.sl.length = n at hk hx0
 clear h
 by_cases h0 : k < 0
 ·have d0 : decide (k < 0) = true := decide_eq_true h0
  clear hk h0
  go_enter Try.func80, Try.ntmps80
  go_wp2_with (first | (go_at_call 84; refine NC.out.mono ?_; rintro e w1 ⟨rfl, rfl⟩))
  go_ret
  exact ⟨rfl, rfl⟩
 ·have d0 : decide (k < 0) = false := decide_eq_false h0
  have d1 : decide (k ≥ (n : Int)) = true := decide_eq_true (by omega)
  have d2 : decide ((n : Int) ≤ k) = true := d1
  clear hk h0
  go_enter Try.func80, Try.ntmps80
  go_wp2_with (first | (go_at_call 84; refine NC.out.mono ?_; rintro e w1 ⟨rfl, rfl⟩))
  go_ret
  exact ⟨rfl, rfl⟩
set_option maxHeartbeats 4000000 in
set_option maxRecDepth 100000 in
theorem tslot_in (h : TabOK w base g T) (k : Nat) (hk : k < T.sl.length) : Calls Try.prog 80 #[.pointer (some ⟨g, 0, none⟩), .int .i64 (k : Int)] w fun e w' => e = .returned (.pointer (some ⟨T.gs, k * 7, none⟩)) ∧ w = w' := by
 have hu := Try.underlying93
 have NC := asd (tnone_calls h)
 have hx0 := (blk_cell h.blk 0).trans rfl
 rw [(h.row (by omega)).1] at hx0
 generalize T.sl.length = n at hk hx0
 generalize T.gs = gs at hx0 ⊢
 have d0 : decide ((k : Int) < 0) = false := decide_eq_false (by omega)
 have d1 : decide ((k : Int) ≥ (n : Int)) = false := decide_eq_false (by omega)
 have d2 : decide ((n : Int) ≤ (k : Int)) = false := d1
 have d3 : decide (n ≤ k) = false := decide_eq_false (by omega)
 have p0 : (0 ≤ (k : Int)) = True := eq_true (by omega)
 have p1 : ((k : Int) < (n : Int)) = True := eq_true (by omega)
 have p2 : (k < n) = True := eq_true hk
 clear h hk
 go_enter Try.func80, Try.ntmps80
 go_wp2_with (first | (go_at_call 84; refine NC.out.mono ?_; rintro e w1 ⟨rfl, rfl⟩))
 go_ret
 exact ⟨by simp [Addr.add], rfl⟩
end
end Go.Proofs.Ytjekfipaadbbbaa.Fn
namespace Go.Proofs.Ytjekfipaadbbbaa.Fn
open Go.RowKit Go.Proofs.YtjekfipaadbbbaaW.PrintWords Go.Proofs.YtjekfipaadbbbaaW.PrintLast Go.Proofs.YtjekfipaadbbbaaW.PrintMore
set_option linter.unusedVariables false
set_option linter.unusedSimpArgs false
section
variable {w w1 : World} {base g : Nat} {T : TD}
theorem TabA.ptc (h : TabA w base g T) {k : Nat} (hk : k < T.sl.length) : w.cell? ⟨T.gs, k * 7 + 6, none⟩ = some (ptrV (T.pt k)) := (h.cell hk (by omega : 6 < 7)).trans rfl
theorem TabA.jbc (h : TabA w base g T) {k b : Nat} (hk : k < T.sl.length) (hb : T.pt k = some b) : w.cell? ⟨b, 1, none⟩ = some (.int .i64 (T.jb k).arr) ∧ w.cell? ⟨b, 2, none⟩ = some (.int .i64 (T.jb k).wrk) ∧ w.cell? ⟨b, 3, none⟩ = some (.int .i64 (T.jb k).dn) := by
 obtain ⟨_, _, h1, _⟩ := h.job k b hk hb
 exact ⟨(blk_cell h1 1).trans rfl, (blk_cell h1 2).trans rfl, (blk_cell h1 3).trans rfl⟩
theorem TabOK.len0 (h : TabOK w base g T) : T.H.ats.length = 0 ↔ ∀ k, T.js k = none := by
 constructor
 ·intro h0 k
  by_cases hk : k < T.sl.length
  ·have hk6 : k < 6 := by have := h.n6; omega
   rcases h.hp.li.bwd k (by rw [h.pl]; exact hk6) with h1 | ⟨i, hi, _⟩
   ·exact (h.inn k hk6).1 h1
   ·omega
  ·exact TD.js_none.2 (T.pt_ge (by omega))
 ·intro hn
  rcases Nat.eq_zero_or_pos T.H.ats.length with h0 | h0
  ·exact h0
  ·have hr := h.hp.li.rng 0 h0
   have hf := h.hp.li.fwd 0 h0
   have hl := h.hp.li.len
   have h6 : (T.H.ats.getD 0 0).toNat < 6 := by have := h.pl; omega
   have h1 := (h.inn (T.H.ats.getD 0 0).toNat h6).2 (hn _)
   rw [hf] at h1
   simp at h1
set_option maxHeartbeats 4000000 in
set_option maxRecDepth 100000 in
theorem tbusy_none (h : TabOK w base g T) (k : Int) (hk : k < 0 ∨ T.js k.toNat = none) : Calls Try.prog 87 #[.pointer (some ⟨g, 0, none⟩), .int .i64 k] w fun e w' => e = .returned (.pointer none) ∧ w = w' := by
 by_cases hr : 0 ≤ k ∧ k < T.sl.length
 ·obtain ⟨m, rfl⟩ : ∃ m : Nat, k = m := ⟨k.toNat, by omega⟩
  have hm : m < T.sl.length := by omega
  have SC := asd (tslot_in h m hm)
  have hp : T.pt m = none := TD.js_none.1 (by rcases hk with q | q; omega; simpa using q)
  have hx := h.ptc hm
  rw [hp] at hx
  have hx6 : w.cell? ⟨T.gs, m * 7 + 6, none⟩ = some (.pointer none) := hx
  have hu := Try.underlying131
  clear h hk hr hm hp hx
  go_enter Try.func87, Try.ntmps87
  go_wp2_with (first | (go_at_call 80; refine SC.out.mono ?_; rintro e w1 ⟨rfl, rfl⟩))
  go_ret
  exact ⟨rfl, rfl⟩
 ·have SC := asd (tslot_out h k hr)
  clear h hk hr
  go_enter Try.func87, Try.ntmps87
  go_wp2_with (first | (go_at_call 80; refine SC.out.mono ?_; rintro e w1 ⟨rfl, rfl⟩))
  go_ret
  exact ⟨rfl, rfl⟩
set_option maxHeartbeats 4000000 in
set_option maxRecDepth 100000 in
theorem tbusy_some (h : TabOK w base g T) (k b : Nat) (hk : k < T.sl.length) (hb : T.pt k = some b) : Calls Try.prog 87 #[.pointer (some ⟨g, 0, none⟩), .int .i64 (k : Int)] w fun e w' => e = .returned (.pointer (some ⟨T.gs, k * 7, none⟩)) ∧ w = w' := by
 have SC := asd (tslot_in h k hk)
 have hx := h.ptc hk
 rw [hb] at hx
 have hx6 : w.cell? ⟨T.gs, k * 7 + 6, none⟩ = some (.pointer (some ⟨b, 0, none⟩)) := hx
 have hu := Try.underlying131
 clear h hk hb hx
 go_enter Try.func87, Try.ntmps87
 go_wp2_with (first | (go_at_call 80; refine SC.out.mono ?_; rintro e w1 ⟨rfl, rfl⟩))
 go_ret
 exact ⟨rfl, rfl⟩
set_option maxHeartbeats 4000000 in
set_option maxRecDepth 100000 in
theorem tfirst_none (h : TabOK w base g T) (hn : ∀ k, T.js k = none) : Calls Try.prog 43 #[.pointer (some ⟨g, 0, none⟩)] w fun e w' => e = .returned (.tuple #[.int .i64 0, .int .i64 0, .bool false]) ∧ Below w.heap.size w w' := by
 have NC := asd (tnone_calls h)
 have hx1 := (blk_cell h.blk 1).trans rfl
 have hu := Try.underlying93
 have h0 := h.len0.2 hn
 have HI := h.hp.is
 rw [List.eq_nil_of_length_eq_zero h0] at HI
 have FC := asd (first_none HI)
 clear h HI h0
 go_enter Try.func43, Try.ntmps43
 go_wp2_with (first | (go_at_call 84; refine NC.out.mono ?_; rintro e w1 ⟨rfl, rfl⟩) | (go_at_call 62; refine FC.out.mono ?_; rintro e w2 ⟨rfl, rfl⟩))
 go_ret3
 exact ⟨rfl, Below.refl _ _⟩
def TD.Least (T : TD) (k : Nat) (j : JB) : Prop := T.js k = some j ∧ ∀ k' j', T.js k' = some j' → dueT T.hi (T.tk k) j < dueT T.hi (T.tk k') j' ∨ (dueT T.hi (T.tk k) j = dueT T.hi (T.tk k') j' ∧ k ≤ k')
theorem TabOK.least (h : TabOK w base g T) (hs : ∀ i, T.dm i = T.hi) (hp : 0 < T.H.ats.length) : ∃ (k : Nat) (j : JB), T.H.ats.getD 0 0 = (k : Int) ∧ T.H.dus.getD k 0 = dueT T.hi (T.tk k) j ∧ T.Least k j := by
 have hr := h.hp.li.rng 0 hp
 have hf := h.hp.li.fwd 0 hp
 have hl := h.hp.li.len
 have h6 : (T.H.ats.getD 0 0).toNat < 6 := by have := h.pl; omega
 obtain ⟨k, hk⟩ : ∃ k : Nat, T.H.ats.getD 0 0 = (k : Int) := ⟨(T.H.ats.getD 0 0).toNat, by omega⟩
 rw [hk, Int.toNat_natCast] at hf h6
 cases hj : T.js k with
 | none => exfalso; have := (h.inn k h6).2 hj; rw [hf] at this; simp at this
 | some j =>
  refine ⟨k, j, hk, by rw [h.due k j hj, hs], hj, fun k' j' hj' => ?_⟩
  have hk' := (TD.js_some hj').1
  have hk6 : k' < 6 := by have := h.n6; omega
  have hne : T.H.pls.getD k' 0 ≠ -1 := fun q => by have := (h.inn k' hk6).1 q; rw [hj'] at this; cases this
  rcases h.hp.li.bwd k' (by rw [h.pl]; exact hk6) with q | ⟨i, hi, _, hai⟩
  ·exact absurd q hne
  ·have hm := heap_min h.hp.he i hi
   rw [hk, hai, le_iff, Int.toNat_natCast, Int.toNat_natCast, h.due k j hj, h.due k' j' hj', hs, hs] at hm
   omega
set_option maxHeartbeats 4000000 in
set_option maxRecDepth 100000 in
theorem tfirst_some (h : TabOK w base g T) (hs : ∀ i, T.dm i = T.hi) (hp : 0 < T.H.ats.length) : Calls Try.prog 43 #[.pointer (some ⟨g, 0, none⟩)] w fun e w' => (∃ (k : Nat) (j : JB), e = .returned (.tuple #[.int .i64 (k : Int), .int .i64 (dueT T.hi (T.tk k) j), .bool true]) ∧ T.Least k j) ∧ Below w.heap.size w w' := by
 have NC := asd (tnone_calls h)
 have hx1 := (blk_cell h.blk 1).trans rfl
 have hu := Try.underlying93
 have FC := asd (first_calls h.hp hp)
 obtain ⟨k, j, e1, e2, e3⟩ := h.least hs hp
 rw [e1, Int.toNat_natCast, e2] at FC
 have LE := asd e3
 clear h e1 e2 e3 hp
 go_enter Try.func43, Try.ntmps43
 go_wp2_with (first | (go_at_call 84; refine NC.out.mono ?_; rintro e w1 ⟨rfl, rfl⟩) | (go_at_call 62; refine FC.out.mono ?_; rintro e w2 ⟨rfl, hb⟩; have HB := asd hb; clear hb))
 go_ret3
 exact ⟨⟨k, j, rfl, LE.out⟩, HB.out⟩
set_option maxHeartbeats 4000000 in
set_option maxRecDepth 100000 in
theorem thigh_calls (h : TabOK w base g T) : Calls Try.prog 44 #[.pointer (some ⟨g, 0, none⟩)] w fun e w' => e = .returned (.bool T.hi) ∧ w = w' := by
 have NC := asd (tnone_calls h)
 have hx2 := (blk_cell h.blk 2).trans rfl
 have hu := Try.underlying93
 clear h
 go_enter Try.func44, Try.ntmps44
 go_wp2_with (first | (go_at_call 84; refine NC.out.mono ?_; rintro e w1 ⟨rfl, rfl⟩))
 go_ret
 exact ⟨by simp, rfl⟩
set_option maxHeartbeats 4000000 in
set_option maxRecDepth 100000 in
theorem tlen_calls (h : TabOK w base g T) : Calls Try.prog 53 #[.pointer (some ⟨g, 0, none⟩)] w fun e w' => e = .returned (.int .i64 T.H.ats.length) ∧ w = w' := by
 have NC := asd (tnone_calls h)
 have hx1 := (blk_cell h.blk 1).trans rfl
 have hu := Try.underlying93
 have LC := asd (hlen_calls h.hp.is)
 clear h
 go_enter Try.func53, Try.ntmps53
 go_wp2_with (first | (go_at_call 84; refine NC.out.mono ?_; rintro e w1 ⟨rfl, rfl⟩) | (go_at_call 33; refine LC.out.mono ?_; rintro e w2 ⟨rfl, rfl⟩))
 go_ret
 exact ⟨rfl, rfl⟩
theorem dueT_bd (h : TabA w base g T) {k b : Nat} (hk : k < T.sl.length) (hb : T.pt k = some b) (hi : Bool) : 0 ≤ dueT hi (T.tk k) (T.jb k) ∧ dueT hi (T.tk k) (T.jb k) ≤ 4611686018427389000 := by
 have h1 := (h.job k b hk hb).2.1.arr
 have h2 := h.tie hk
 unfold dueT
 split <;> omega
set_option maxHeartbeats 4000000 in
set_option maxRecDepth 100000 in
theorem tdue_calls (h : TabA w base g T) (k b : Nat) (hk : k < T.sl.length) (hb : T.pt k = some b) (hi : Bool) : Calls Try.prog 83 #[.pointer (some ⟨T.gs, k * 7, none⟩), .bool hi] w fun e w' => e = .returned (.int .i64 (dueT hi (T.tk k) (T.jb k))) ∧ Below w.heap.size w w' := by
 have hx := h.ptc hk
 rw [hb] at hx
 have hx6 : w.cell? ⟨T.gs, k * 7 + 6, none⟩ = some (.pointer (some ⟨b, 0, none⟩)) := hx
 have hx2 : w.cell? ⟨T.gs, k * 7 + 2, none⟩ = some (.int .i64 (T.tk k).f2) := (h.cell hk (by omega : 2 < 7)).trans rfl
 have hx3 : w.cell? ⟨T.gs, k * 7 + 3, none⟩ = some (.int .i64 (T.tk k).f3) := (h.cell hk (by omega : 3 < 7)).trans rfl
 have hy1 := (h.jbc hk hb).1
 have hbd := dueT_bd h hk hb hi
 have hu := Try.underlying131
 have hu2 := Try.underlying45
 have hu3 := Try.underlying69
 unfold dueT at hbd ⊢
 generalize T.tk k = x at hx2 hx3 hbd ⊢
 generalize T.jb k = j at hy1 hbd ⊢
 clear h hk hb hx
 cases hi with
 | true =>
  simp only [if_true] at hbd ⊢
  have wr : wrap64 (j.arr + x.f2) = j.arr + x.f2 := by unfold wrap64; omega
  clear hbd
  go_enter Try.func83, Try.ntmps83
  go_wp2
  go_region
  go_wp2
  go_ret
  exact ⟨by show Ending.returned (.int .i64 (wrap64 _)) = _; rw [wr], by first | exact Below.refl _ _ | exact below_drew1 (Below.refl _ _) | exact below_drewN1 _ _⟩
 | false =>
  simp only [if_false, Bool.false_eq_true] at hbd ⊢
  have wr : wrap64 (j.arr + x.f3) = j.arr + x.f3 := by unfold wrap64; omega
  clear hbd
  go_enter Try.func83, Try.ntmps83
  go_wp2
  go_region
  go_wp2
  go_ret
  exact ⟨by show Ending.returned (.int .i64 (wrap64 _)) = _; rw [wr], by first | exact Below.refl _ _ | exact below_drew1 (Below.refl _ _) | exact below_drewN1 _ _⟩
set_option maxHeartbeats 4000000 in
set_option maxRecDepth 100000 in
theorem tbudget_calls (h : TabA w base g T) (k : Nat) (hk : k < T.sl.length) (hi : Bool) : Calls Try.prog 90 #[.pointer (some ⟨T.gs, k * 7, none⟩), .bool hi] w fun e w' => e = .returned (.int .i64 (budT hi (T.tk k))) ∧ w = w' := by
 have hx4 : w.cell? ⟨T.gs, k * 7 + 4, none⟩ = some (.int .i64 (T.tk k).f4) := (h.cell hk (by omega : 4 < 7)).trans rfl
 have hx5 : w.cell? ⟨T.gs, k * 7 + 5, none⟩ = some (.int .i64 (T.tk k).f5) := (h.cell hk (by omega : 5 < 7)).trans rfl
 have hu := Try.underlying131
 have hu2 := Try.underlying45
 generalize T.tk k = x at hx4 hx5 ⊢
 clear h hk
 cases hi <;>
 ·go_enter Try.func90, Try.ntmps90
  go_wp2
  go_ret
  exact ⟨rfl, rfl⟩
end
end Go.Proofs.Ytjekfipaadbbbaa.Fn
namespace Go.Proofs.Ytjekfipaadbbbaa.Fn
open Go.RowKit Go.Proofs.YtjekfipaadbbbaaW.PrintWords Go.Proofs.YtjekfipaadbbbaaW.PrintLast Go.Proofs.YtjekfipaadbbbaaW.PrintMore
set_option linter.unusedVariables false
set_option linter.unusedSimpArgs false
theorem info131 : (Try.prog.info? 131).map (fun i => (i.zero, i.size, i.bytes)) = some (some (.agg #[.bool false, .int .i64 0, .int .i64 0, .int .i64 0, .int .i64 0, .int .i64 0, .pointer none]), 7, 56) := by kernel_rfl
def tkn7T : Bool × List (List Nat × List Nat) := (true, [([], []), ([], []), ([1], [1]), ([2], [2]), ([3], [3]), ([], []), ([5], [5]), ([6], [6]), ([4, 7], [4, 7]), ([0, 0, 1, 2, 3, 4, 5, 6, 7, 8], [0]), ([9, 0, 1, 2, 3, 4, 5, 6, 7, 8], [9]), ([10, 8, 8, 0, 1, 2, 3, 4, 5, 6, 7, 8], [8, 10])])
def tkn7B : List Nat := [0, 0, 2, 6, 14, 0, 32, 96, 254, 511, 1023, 2047]
theorem tkn7_tab : rtab .any (opsOf Try.f79 7) = tkn7T := by kernel_rfl
theorem tkn7_bits : waitsOk tkn7T.2 tkn7B = true := by kernel_rfl
theorem ptrV_one (x : Option Nat) : (ptrV x).oneCell' = true := by cases x <;> rfl
def kSl : Kd (S44 × Option Nat) := Kd.iso (Kd.pair Kd.bool (Kd.pair (Kd.int .i64) (Kd.pair (Kd.int .i64) (Kd.pair (Kd.int .i64) (Kd.pair (Kd.int .i64) (Kd.pair (Kd.int .i64) (Kd.scalar ptrV ptrV_one))))))) (fun x => (x.1.f0, x.1.f1, x.1.f2, x.1.f3, x.1.f4, x.1.f5, x.2))
theorem kSl_mkM (w : World) (base : Nat) (ok : Nat → Prop) (x : S44 × Option Nat) : kSl.M w base ok x (slotC x) := ⟨[.bool x.1.f0], _, rfl, rfl, [.int .i64 x.1.f1], _, rfl, rfl, [.int .i64 x.1.f2], _, rfl, rfl, [.int .i64 x.1.f3], _, rfl, rfl, [.int .i64 x.1.f4], _, rfl, rfl, [.int .i64 x.1.f5], _, rfl, rfl, rfl⟩
theorem kSl_openM {w : World} {base : Nat} {ok : Nat → Prop} {x : S44 × Option Nat} {cs : List Value} (h : kSl.M w base ok x cs) : cs = slotC x := by
  obtain ⟨a0, b0, rfl, h0, a1, b1, rfl, h1, a2, b2, rfl, h2, a3, b3, rfl, h3, a4, b4, rfl, h4, a5, b5, rfl, h5, h6⟩ := h
  have h0 : a0 = [.bool x.1.f0] := h0
  have h1 : a1 = [.int .i64 x.1.f1] := h1
  have h2 : a2 = [.int .i64 x.1.f2] := h2
  have h3 : a3 = [.int .i64 x.1.f3] := h3
  have h4 : a4 = [.int .i64 x.1.f4] := h4
  have h5 : a5 = [.int .i64 x.1.f5] := h5
  have h6 : b5 = [ptrV x.2] := h6
  subst h0 h1 h2 h3 h4 h5 h6
  rfl
theorem reps_slots {w : World} {base : Nat} {ok : Nat → Prop} (xs : List (S44 × Option Nat)) : ∀ cs, Reps (kSl.M w base ok) 7 xs cs → cs = slotsV xs := by
  induction xs with
  | nil => intro cs h; exact List.eq_nil_of_length_eq_zero (by simpa using h.1)
  | cons x xs ih =>
    intro cs h
    have h0 := kSl_openM (h.2 0 x rfl)
    have h1 : Reps (kSl.M w base ok) 7 xs (cs.drop 7) := ⟨by rw [List.length_drop, h.1, List.length_cons]; omega, fun j p hj => by
      have h2 := h.2 (j + 1) p (by simpa using hj)
      rw [List.drop_drop, show 7 + j * 7 = (j + 1) * 7 by omega]; exact h2⟩
    rw [Nat.zero_mul, List.drop_zero] at h0
    rw [← List.take_append_drop 7 cs, h0, ih _ h1]
    rfl
theorem slots_row {w : World} {base : Nat} {ok : Nat → Prop} {A : Option Addr} {n c : Nat} {xs : List (S44 × Option Nat)} (h : kSl.R 131 w base ok (.slice A n c) xs) (hp : 0 < xs.length) : ∃ gs rest, A = some ⟨gs, 0, none⟩ ∧ base ≤ gs ∧ w.heap[gs]? = some (.cells (slotsV xs ++ rest).toArray 131 (0, 0)) := by
  obtain ⟨_, inner, ho, hr⟩ := h
  have hi := reps_slots xs inner hr
  obtain ⟨hl, ho⟩ := ho
  rcases ho with ⟨hv, h0⟩ | ⟨gs, cap, cur, hv, hg, hc, _, _, _, hx⟩
  · omega
  · injection hv with hA _ _
    refine ⟨gs, cur.toList.drop (xs.length * kSl.sz), hA, hg, ?_⟩
    rw [hc, ← hi, ← hx, List.take_append_drop]
theorem IsHeap.chgT {w w1 : World} {base g ca gp cp gd cd : Nat} {A : Option Addr} {ats pls dus : List Int} {S : Nat → Prop} (h : IsHeap w base g A ca ats gp cp pls gd cd dus) (hk : Chg S w w1) (hne : ∀ k, heapS g A gp gd k → ¬ S k) : IsHeap w1 base g A ca ats gp cp pls gd cd dus :=
  ⟨blk_chg h.blk hk (hne _ (.inl rfl)), h.lo, h.n1, h.n2, h.n3,
   Kd.R_mono (R_chg (Kd.R_tight2 rfl h.ra) hk (fun k hk => hne k (.inr (.inl (own_some hk.1.symm))))) (fun _ h => h.2),
   R_chg h.rp hk (fun k hk => hne k (.inr (.inr (.inl hk)))), R_chg h.rd hk (fun k hk => hne k (.inr (.inr (.inr hk))))⟩
theorem hok_chg {w w1 : World} {base g ca gp cp gd cd : Nat} {A : Option Addr} {ats pls dus : List Int} {S : Nat → Prop} (h : HOK w base g A ca ats gp cp pls gd cd dus) (hk : Chg S w w1) (hne : ∀ k, heapS g A gp gd k → ¬ S k) : HOK w1 base g A ca ats gp cp pls gd cd dus := ⟨h.is.chgT hk hne, h.li, h.he⟩
theorem hok_typed {w : World} {base g ca gp cp gd cd : Nat} {A : Option Addr} {ats pls dus : List Int} (h : HOK w base g A ca ats gp cp pls gd cd dus) (hA : ∀ a, A = some a → (Value.slice A ats.length ca).ownBlock = some a.block) : ∀ k, heapS g A gp gd k → ∃ t cells, (t = 108 ∨ t = 3) ∧ w.heap[k]? = some (.cells cells t (0, 0)) := by
  rintro k (rfl | ⟨a, ha, rfl⟩ | rfl | rfl)
  · exact ⟨108, _, .inl rfl, h.is.blk⟩
  · obtain ⟨cells, hc⟩ := Kd.R_typed h.is.ra a.block (hA a ha)
    exact ⟨3, cells, .inr rfl, hc⟩
  · obtain ⟨cells, hc⟩ := Kd.R_typed h.is.rp _ rfl
    exact ⟨3, cells, .inr rfl, hc⟩
  · obtain ⟨cells, hc⟩ := Kd.R_typed h.is.rd _ rfl
    exact ⟨3, cells, .inr rfl, hc⟩
theorem own_of {A : Option Addr} {n c : Nat} {a : Addr} (h : A = some a) : (Value.slice A n c).ownBlock = some a.block := by rw [h]; rfl
theorem hok_grown {w w1 : World} {base gh ca gp cp gd cd b2 : Nat} {A : Option Addr} {ats pls dus : List Int} {ok : Nat → Prop} {v : Value} {xs : List (S44 × Option Nat)} (h : HOK w base gh A ca ats gp cp pls gd cd dus) (hr : kSl.R 131 w b2 ok v xs) (hg : w.grownBy w1 v.ownBlock) : HOK w1 base gh A ca ats gp cp pls gd cd dus :=
  hok_chg h ((Chg.refl (fun k => v.ownBlock = some k) w).grown hg (fun k hk => .inl hk)) (fun k hk hs => by
    obtain ⟨t, cells, ht, hc⟩ := hok_typed h (fun a ha => own_of ha) k hk
    exact Kd.R_ne hr hc (by rcases ht with rfl | rfl <;> decide) hs.symm)
section
variable (A : Option Addr) (c : Nat) (l : List S44)
set_option maxHeartbeats 8000000 in
set_option maxRecDepth 100000 in
theorem tnew_calls (w : World) (h : Kd.C k44 w A l.length l) (hn : l.length ≤ 6) (hall : l.all rtC = true) :
    Calls Try.prog 79 #[.slice A l.length c] w fun e w' => ∃ (base g : Nat) (T : TD), e = .returned (.pointer (some ⟨g, 0, none⟩)) ∧ TabOK w' base g T ∧ T.sl = l.map (fun x => (x, none)) ∧ T.hi = false ∧ (∀ i, T.dm i = T.hi) ∧ w.heap.size ≤ base ∧ Below w.heap.size w w' := by
  have hu93 := Try.underlying93
  have hu131 := Try.underlying131
  have hu45 := Try.underlying45
  have HC := asd h
  have HN := asd hn
  have HA := asd hall
  have d6 : decide (6 < (l.length : Int)) = false := decide_eq_false (by omega)
  have d7 : decide ((l.length : Int) > 6) = false := decide_eq_false (by omega)
  clear h hn hall
  go_enter Try.func79, Try.ntmps79
  go_wp2_with (first | (go_at_call 72; refine (tcontains_calls A c l _ HC.out (by have := HN.out; omega)).mono ?_; rintro e w1 ⟨rfl, hb⟩; rw [HA.out]; have HB := asd hb; clear hb) | (go_at_call 28; refine (hnew_calls 6 (by omega) _).mono ?_; rintro e w2 ⟨gh, gp, cp, gd, cd, pls, rfl, h2, hl2, hm2, hb2⟩; have H2 := asd h2; have HM2 := asd (And.intro hl2 hm2); have HB2 := asd hb2; clear h2 hl2 hm2 hb2))
  have hbx := heap_alloc_new w2 (.cells #[.slice none 0 0, .pointer (some ⟨gh, 0, none⟩), .bool false] 93)
  have BP := asd hbx
  have HOK0 : Aside0 (HOK (w2.alloc (.cells #[.slice none 0 0, .pointer (some ⟨gh, 0, none⟩), .bool false] 93)) w1.heap.size gh none 0 [] gp cp pls gd cd (List.replicate 6 0)) := ⟨⟨H2.out.is.below (below_alloc (Below.refl _ _) _), H2.out.li, H2.out.he⟩⟩
  have HBX := asd (below_step HB2.out (below_alloc (Below.refl _ _) (.cells #[.slice none 0 0, .pointer (some ⟨gh, 0, none⟩), .bool false] 93)))
  have GLO : Aside0 (w1.heap.size ≤ w2.heap.size) := ⟨HB2.out.size⟩
  clear hbx H2 HB2
  try go_wp2
  generalize hg : w2.heap.size = g at *
  go_loopw [18] (fun v wr => ∃ (x : Int) (A' : Option Addr) (c' : Nat) (ys : List (S44 × Option Nat)), v = .int .i64 x ∧ Aside0 (0 ≤ x ∧ x ≤ l.length ∧ ys = (l.take x.toNat).map (fun x => ((x, none) : S44 × Option Nat))) ∧ Aside0 (wr.heap[g]? = some (.cells #[.slice A' ys.length c', .pointer (some ⟨gh, 0, none⟩), .bool false] 93 (0, 0))) ∧ Aside0 (kSl.R 131 wr w1.heap.size (fun k => k ≠ g) (.slice A' ys.length c') ys) ∧ Aside0 (HOK wr w1.heap.size gh none 0 [] gp cp pls gd cd (List.replicate 6 0)) ∧ Aside0 (Below w1.heap.size w1 wr)) (fun v _ => l.length - (intOf v).toNat)
  case atStart => exact ⟨0, none, 0, [], rfl, ⟨by omega, by omega, rfl⟩, BP, ⟨Kd.R_nil _ _ _ _ _⟩, HOK0, HBX⟩
  case round =>
    clear BP HOK0 HBX
    obtain ⟨x, A', c', ys, rfl, HX, BPr, HOr, HOKr, HBr⟩ := hrel
    have h0 : 0 ≤ x := HX.out.1
    have h9 : x ≤ 1000 := by have := HX.out.2.1; have := HN.out; omega
    by_cases hlt : x < (l.length : Int)
    · have p1 : (0 ≤ x) = True := eq_true h0
      have q1 : (x < (l.length : Int)) = True := eq_true hlt
      have LY : Aside0 (ys.length ≤ 6) := ⟨by rw [HX.out.2.2, List.length_map, List.length_take]; have := HN.out; omega⟩
      have NXT : Aside0 (ys ++ [(rd_T44 l x, none)] = (l.take (x + 1).toNat).map (fun x => ((x, none) : S44 × Option Nat))) := ⟨by
        have e : (x + 1).toNat = x.toNat + 1 := by omega
        have hl : x.toNat < l.length := by omega
        rw [e, HX.out.2.2, List.take_succ_eq_append_getElem hl, List.map_append]
        simp [rd_T44, List.getD, hl]⟩
      obtain ⟨ad, rfl, y0, y1, y2, y3, y4, y5⟩ := at_T44 (Kd.C_below HC.out (below_step HB.out HBr.out)) x h0 hlt
      have BX := asd (heap_alloc_new wr (.cells #[.bool (rd_T44 l x).f0, .int .i64 (rd_T44 l x).f1, .int .i64 (rd_T44 l x).f2, .int .i64 (rd_T44 l x).f3, .int .i64 (rd_T44 l x).f4, .int .i64 (rd_T44 l x).f5] 45))
      have BP := asd (blk_alloc BPr.out (.cells #[.bool (rd_T44 l x).f0, .int .i64 (rd_T44 l x).f1, .int .i64 (rd_T44 l x).f2, .int .i64 (rd_T44 l x).f3, .int .i64 (rd_T44 l x).f4, .int .i64 (rd_T44 l x).f5] 45))
      have HO := asd (Kd.R_alloc HOr.out (.cells #[.bool (rd_T44 l x).f0, .int .i64 (rd_T44 l x).f1, .int .i64 (rd_T44 l x).f2, .int .i64 (rd_T44 l x).f3, .int .i64 (rd_T44 l x).f4, .int .i64 (rd_T44 l x).f5] 45))
      have HOK1 : Aside0 (HOK (wr.alloc (.cells #[.bool (rd_T44 l x).f0, .int .i64 (rd_T44 l x).f1, .int .i64 (rd_T44 l x).f2, .int .i64 (rd_T44 l x).f3, .int .i64 (rd_T44 l x).f4, .int .i64 (rd_T44 l x).f5] 45)) w1.heap.size gh none 0 [] gp cp pls gd cd (List.replicate 6 0)) := ⟨⟨HOKr.out.is.below (below_alloc (Below.refl _ _) _), HOKr.out.li, HOKr.out.he⟩⟩
      have HB2 := asd (below_alloc HBr.out (.cells #[.bool (rd_T44 l x).f0, .int .i64 (rd_T44 l x).f1, .int .i64 (rd_T44 l x).f2, .int .i64 (rd_T44 l x).f3, .int .i64 (rd_T44 l x).f4, .int .i64 (rd_T44 l x).f5] 45))
      clear BPr HOr HOKr HBr
      go_wp2
      have HBw := asd (below_drew1 HB2.out)
      have BX2 := asd (blk_drew BX.out)
      have BP2 := asd (blk_drew BP.out)
      have HO2 := asd (Kd.R_drew HO.out)
      have HOK2 : Aside0 (HOK (wr.alloc (.cells #[.bool (rd_T44 l x).f0, .int .i64 (rd_T44 l x).f1, .int .i64 (rd_T44 l x).f2, .int .i64 (rd_T44 l x).f3, .int .i64 (rd_T44 l x).f4, .int .i64 (rd_T44 l x).f5] 45)).drew w1.heap.size gh none 0 [] gp cp pls gd cd (List.replicate 6 0)) := ⟨⟨HOK1.out.is.below (below_drew1 (Below.refl _ _)), HOK1.out.li, HOK1.out.he⟩⟩
      clear HB2 BX BP HO HOK1 y0 y1 y2 y3 y4 y5
      have BX := BX2
      have BP := BP2
      have HO := HO2
      have HOK1 := HOK2
      clear BX2 BP2 HO2 HOK2
      refine start_ (n := 12) (S := fun w' => w'.cell? ⟨g, 0, none⟩ = some (.slice A' ys.length c') ∧ w'.cell? ⟨wr.heap.size, 0, none⟩ = some (.bool (rd_T44 l x).f0) ∧ w'.cell? ⟨wr.heap.size, 1, none⟩ = some (.int .i64 (rd_T44 l x).f1) ∧ w'.cell? ⟨wr.heap.size, 2, none⟩ = some (.int .i64 (rd_T44 l x).f2) ∧ w'.cell? ⟨wr.heap.size, 3, none⟩ = some (.int .i64 (rd_T44 l x).f3) ∧ w'.cell? ⟨wr.heap.size, 4, none⟩ = some (.int .i64 (rd_T44 l x).f4) ∧ w'.cell? ⟨wr.heap.size, 5, none⟩ = some (.int .i64 (rd_T44 l x).f5)) (ds := [11]) #[false, false, false, false, false, false, false, false, false, false, false, false] (by kernel_rfl) rfl rfl ⟨(blk_cell BP.out 0).trans rfl, (blk_cell BX.out 0).trans rfl, (blk_cell BX.out 1).trans rfl, (blk_cell BX.out 2).trans rfl, (blk_cell BX.out 3).trans rfl, (blk_cell BX.out 4).trans rfl, (blk_cell BX.out 5).trans rfl⟩ (fun hHeld => ?_); refine with_tabW tkn7_tab tkn7_bits (fun HT_ HW_ => ?_)
      generalize (wr.alloc (.cells #[.bool (rd_T44 l x).f0, .int .i64 (rd_T44 l x).f1, .int .i64 (rd_T44 l x).f2, .int .i64 (rd_T44 l x).f3, .int .i64 (rd_T44 l x).f4, .int .i64 (rd_T44 l x).f5] 45)).drew = w25 at HBw BX BP HO HOK1 hHeld ⊢
      refine pure_ (i := 0) (N := (some 22)) (v := ?_) (a' := ?_) #[true, false, false, false, false, false, false, false, false, false, false, false] rfl rfl (any_of HT_.out (by kernel_rfl)) (fun _ _ _ h => h) (Or.inl ⟨by rfl, ?_⟩) ?_ ?_
      rotate_left
      · intro w'
        go_simp
        with_reducible rfl
      rotate_left
      · simp only [Act.put, sB, i64_w, i32_w]
        rfl
      refine pure_ (i := 1) (N := (some 23)) (v := ?_) (a' := ?_) #[true, true, false, false, false, false, false, false, false, false, false, false] rfl rfl (any_of HT_.out (by kernel_rfl)) (fun _ _ _ h => h) (Or.inl ⟨by rfl, ?_⟩) ?_ ?_
      rotate_left
      · intro w'
        go_simp
        with_reducible rfl
      rotate_left
      · simp only [Act.put, sB, i64_w, i32_w]
        rfl
      refine pure_ (i := 2) (N := (some 24)) (v := ?_) (a' := ?_) #[true, true, true, false, false, false, false, false, false, false, false, false] rfl rfl (any_of HT_.out (by kernel_rfl)) (fun _ _ _ h => h) (Or.inl ⟨by rfl, ?_⟩) ?_ ?_
      rotate_left
      · intro w'
        go_simp
        with_reducible rfl
      rotate_left
      · simp only [Act.put, sB, i64_w, i32_w]
        rfl
      refine pure_ (i := 3) (N := (some 25)) (v := ?_) (a' := ?_) #[true, true, true, true, false, false, false, false, false, false, false, false] rfl rfl (any_of HT_.out (by kernel_rfl)) (fun _ _ _ h => h) (Or.inl ⟨by rfl, ?_⟩) ?_ ?_
      rotate_left
      · intro w'
        go_simp
        with_reducible rfl
      rotate_left
      · simp only [Act.put, sB, i64_w, i32_w]
        rfl
      refine take_ (i := 4) (N := (some 26)) (v := ?_) (a' := ?_) #[true, true, true, true, true, false, false, false, false, false, false, false] rfl rfl (take_ofW HT_.out HW_.out (by kernel_rfl)) (fun _ _ _ h => h) (Or.inl ⟨by rfl, ?_⟩) hHeld ?_ ?_
      rotate_left
      · rintro w' ⟨s0, s1, s2, s3, s4, s5, s6⟩
        go_simp
        with_reducible rfl
      rotate_left
      · simp only [Act.put, sB, i64_w, i32_w]
        rfl
      refine take_ (i := 5) (N := (some 27)) (v := ?_) (a' := ?_) #[true, true, true, true, true, true, false, false, false, false, false, false] rfl rfl (take_ofW HT_.out HW_.out (by kernel_rfl)) (fun _ _ _ h => h) (Or.inl ⟨by rfl, ?_⟩) hHeld ?_ ?_
      rotate_left
      · rintro w' ⟨s0, s1, s2, s3, s4, s5, s6⟩
        go_simp
        with_reducible rfl
      rotate_left
      · simp only [Act.put, sB, i64_w, i32_w]
        rfl
      refine pure_ (i := 6) (N := (some 28)) (v := ?_) (a' := ?_) #[true, true, true, true, true, true, true, false, false, false, false, false] rfl rfl (any_of HT_.out (by kernel_rfl)) (fun _ _ _ h => h) (Or.inl ⟨by rfl, ?_⟩) ?_ ?_
      rotate_left
      · intro w'
        go_simp
        with_reducible rfl
      rotate_left
      · simp only [Act.put, sB, i64_w, i32_w]
        rfl
      refine one_ (i := 7) (N := (some 29)) #[true, true, true, true, true, true, true, true, false, false, false, false] rfl rfl (one_of HT_.out (by kernel_rfl)) (by decide) (fun K hK => ?_)
      refine value_ (w1 := ?_) (v := ?_) (by rfl) rfl ?_ ?_
      rotate_left 2
      · go_simp
        constructor
        · rfl
        · rfl
      refine hK.out _ _ ⟨(blk_cell (blk_alloc BP.out _) 0).trans rfl, (blk_cell (blk_alloc BX.out _) 0).trans rfl, (blk_cell (blk_alloc BX.out _) 1).trans rfl, (blk_cell (blk_alloc BX.out _) 2).trans rfl, (blk_cell (blk_alloc BX.out _) 3).trans rfl, (blk_cell (blk_alloc BX.out _) 4).trans rfl, (blk_cell (blk_alloc BX.out _) 5).trans rfl⟩ (fun hHeld => ?_)
      clear hK K
      refine norm_ (a' := ?_) ?_ ?_
      rotate_left
      · show Act.put _ (some 29) _ = _
        simp only [Act.put, sB, i64_w, i32_w]
        rfl
      refine one_ (i := 8) (N := (some 30)) #[true, true, true, true, true, true, true, true, true, false, false, false] rfl rfl (one_of HT_.out (by kernel_rfl)) (by decide) (fun K hK => ?_)
      refine Kd.R_append_step kSl (w0 := w1) w1.heap.size (by rfl) (.tmp 26) (.tmp 29) 91 131 (.agg #[.bool false, .int .i64 0, .int .i64 0, .int .i64 0, .int .i64 0, .int .i64 0, .pointer none]) 56 rfl Try.underlying91 info131 rfl (by decide) (by omega) (.slice A' ys.length c') ys (((rd_T44 l x), none) : S44 × Option Nat) [.bool (rd_T44 l x).f0, .int .i64 (rd_T44 l x).f1, .int .i64 (rd_T44 l x).f2, .int .i64 (rd_T44 l x).f3, .int .i64 (rd_T44 l x).f4, .int .i64 (rd_T44 l x).f5, .pointer none] (fun k => k ≠ g) (fun _ => False) rfl rfl ?aP (fun _ hk => hk.elim) ?aF ?aO ?aB ?aS ?aL ?_
      (case aP => exact kSl_mkM _ _ _ (((rd_T44 l x), none) : S44 × Option Nat))
      (case aB => exact HBw.out)
      (case aF => exact (fun k hk => by have := blk_lt BP.out; omega))
      (case aO => exact HO.out)
      (case aS => exact below_size HBw.out)
      (case aL => have := LY.out; omega)
      intro v9 w9 ho hb hgr hat
      have BP9 := asd (blk_grown BP.out hgr (Kd.R_ne HO.out BP.out (by decide)))
      have BX9 := asd (blk_grown BX.out hgr (Kd.R_ne HO.out BX.out (by decide)))
      have HOK9 := asd (hok_grown HOK1.out HO.out hgr)
      have HB9 := asd hb
      have HO9 := asd ho
      clear ho hb hgr hat HBw HO BP BX HOK1
      obtain ⟨A9, c9, rfl⟩ := Kd.R_slice HO9.out
      refine hK.out _ _ ⟨(blk_cell BP9.out 0).trans rfl, (blk_cell BX9.out 0).trans rfl, (blk_cell BX9.out 1).trans rfl, (blk_cell BX9.out 2).trans rfl, (blk_cell BX9.out 3).trans rfl, (blk_cell BX9.out 4).trans rfl, (blk_cell BX9.out 5).trans rfl⟩ (fun hHeld => ?_)
      clear hK K
      refine norm_ (a' := ?_) ?_ ?_
      rotate_left
      · show Act.put _ (some 30) _ = _
        simp only [Act.put, sB, i64_w, i32_w]
        rfl
      refine pure_ (i := 9) (N := (some 31)) (v := ?_) (a' := ?_) #[true, true, true, true, true, true, true, true, true, true, false, false] rfl rfl (any_of HT_.out (by kernel_rfl)) (fun _ _ _ h => h) (Or.inl ⟨by rfl, ?_⟩) ?_ ?_
      rotate_left
      · intro w'
        go_simp
        with_reducible rfl
      rotate_left
      · simp only [Act.put, sB, i64_w, i32_w]
        rfl
      refine pure_ (i := 10) (N := (some 32)) (v := ?_) (a' := ?_) #[true, true, true, true, true, true, true, true, true, true, true, false] rfl rfl (any_of HT_.out (by kernel_rfl)) (fun _ _ _ h => h) (Or.inl ⟨by rfl, ?_⟩) ?_ ?_
      rotate_left
      · intro w'
        go_simp
        with_reducible rfl
      rotate_left
      · simp only [Act.put, sB, i64_w, i32_w]
        rfl
      refine last_ (i := 11) (N := none) #[true, true, true, true, true, true, true, true, true, true, true, true] rfl rfl (one_of HT_.out (by kernel_rfl)) (by decide) (fun K hK => ?_)
      have hs28 := (blk_cell BP9.out 0).trans rfl
      have hfs28 := blk_frozen BP9.out 0
      refine skip_ (w1 := ?_) (by rfl) rfl ?_ ?_
      rotate_left
      · go_simp
        rfl
      refine hK.out _ _ ?_
      clear hK K
      refine done_ (done_of HT_.out (by kernel_rfl)) ?_
      try go_wp2
      go_roundw
      case rel => exact ⟨x + 1, A9, c9, ys ++ [(rd_T44 l x, none)], rfl, ⟨by omega, by omega, NXT.out⟩, ⟨by have hq := blk_set BP9.out 0 (.slice A9 (ys.length + 1) c9); rw [List.length_append]; exact hq⟩, ⟨Kd.R_far HO9.out (p := ⟨g, 0, none⟩) (fun k hk => hk) _⟩, ⟨hok_chg HOK9.out ((Chg.refl (fun k => k = g) _).set_ (p := ⟨g, 0, none⟩) (.inl rfl) _) (fun k hk e => by
        obtain ⟨t, cells, ht, hc⟩ := hok_typed HOK9.out (fun a ha => own_of ha) k hk
        have hb := BP9.out
        rw [e] at hc
        exact absurd rfl (blk_ne hc hb (by rcases ht with rfl | rfl <;> decide)))⟩, ⟨HB9.out.setCell (by have := GLO.out; omega) _⟩⟩
      case measure => simp [intOf]; omega
    · have hq : decide (x < (l.length : Int)) = false := decide_eq_false hlt
      have e : ys = l.map (fun x => ((x, none) : S44 × Option Nat)) := by have h1 := HX.out; rw [List.take_of_length_le (by omega)] at h1; exact h1.2.2
      clear hlt HX h0 h9
      go_wp2
      go_ret
      refine ⟨w1.heap.size, g, ⟨A', A'.elim 0 (·.block), c', gh, false, ys, fun _ => ⟨0, 0, 0, 0, []⟩, fun _ => .slice none 0 0, fun _ => false, ⟨none, 0, [], gp, cp, pls, gd, cd, List.replicate 6 0⟩⟩, rfl, ?_, e, rfl, fun _ => rfl, HB.out.size, below_step HB.out HBr.out⟩
      have hpt : ∀ k, TD.pt ⟨A', A'.elim 0 (·.block), c', gh, false, ys, fun _ => ⟨0, 0, 0, 0, []⟩, fun _ => .slice none 0 0, fun _ => false, ⟨none, 0, [], gp, cp, pls, gd, cd, List.replicate 6 0⟩⟩ k = none := fun k => by
        unfold TD.pt
        simp only [e, List.getD_eq_getElem?_getD, List.getElem?_map]
        cases l[k]? <;> rfl
      refine ⟨⟨BPr.out, fun hp => ?_, fun k b _ hb => ?_, fun k k' b _ _ hb => ?_, by have := GLO.out; omega, fun hp => ?_, by simp only [e, List.length_map]; exact HN.out, fun k hk => ?_⟩, HOKr.out, HM2.out.1, fun id hid => ⟨fun _ => TD.js_none.2 (hpt id), fun _ => HM2.out.2 id hid⟩, fun id j hj => ?_, by unfold numJ b2; simp only [TD.js_none.2 (hpt _)]; rfl⟩
      · obtain ⟨gs, rest, hA', hg', hb⟩ := slots_row HOr.out hp
        refine ⟨?_, rest, ?_⟩
        · simp only [hA']; rfl
        · simp only [hA']; exact hb
      · rw [hpt] at hb; cases hb
      · rw [hpt] at hb; cases hb
      · obtain ⟨gs, rest, hA', hg', hb⟩ := slots_row HOr.out hp
        simp only [hA']; exact hg'
      · unfold TD.tk
        simp only [e, List.getD_eq_getElem?_getD, List.getElem?_map]
        have hk' : k < l.length := by simpa [e] using hk
        rw [List.getElem?_eq_getElem hk']
        exact List.all_eq_true.1 HA.out _ (List.getElem_mem hk')
      · have := (TD.js_some hj).2.2
        obtain ⟨b, hb⟩ := this
        rw [hpt] at hb; cases hb
end
end Go.Proofs.Ytjekfipaadbbbaa.Fn
namespace Go.Proofs.Ytjekfipaadbbbaa.Fn
open Go.RowKit Go.Proofs.YtjekfipaadbbbaaW.PrintWords Go.Proofs.YtjekfipaadbbbaaW.PrintLast Go.Proofs.YtjekfipaadbbbaaW.PrintMore
set_option linter.unusedVariables false
set_option linter.unusedSimpArgs false
def TD.SA (T : TD) (g k : Nat) : Prop := k = g ∨ (0 < T.sl.length ∧ k = T.gs) ∨ (∃ i, i < T.sl.length ∧ T.pt i = some k)
def TD.hS (T : TD) (k : Nat) : Prop := heapS T.gh T.H.A T.H.gp T.H.gd k
def TD.upd (T : TD) (k : Nat) (p : Option Nat) (j : JB) (v : Value) : TD := { T with sl := T.sl.set k (T.tk k, p), jb := fun i => if i = k then j else T.jb i, ov := fun i => if i = k then v else T.ov i }
def TD.putH (T : TD) (H : HD) (dm : Nat → Bool) : TD := { T with H := H, dm := dm }
section
variable {w w1 : World} {base g : Nat} {T : TD}
theorem TD.S_iff (T : TD) (g k : Nat) : T.S g k ↔ T.SA g k ∨ T.hS k := by
  unfold TD.S TD.SA TD.hS
  constructor
  · rintro (h | h | h | h)
    · exact .inl (.inl h)
    · exact .inl (.inr (.inl h))
    · exact .inl (.inr (.inr h))
    · exact .inr h
  · rintro ((h | h | h) | h)
    · exact .inl h
    · exact .inr (.inl h)
    · exact .inr (.inr (.inl h))
    · exact .inr (.inr (.inr h))
theorem upd_len (T : TD) (k : Nat) (p : Option Nat) (j : JB) (v : Value) : (T.upd k p j v).sl.length = T.sl.length := List.length_set ..
theorem upd_get (T : TD) {k : Nat} (hk : k < T.sl.length) (p : Option Nat) (j : JB) (v : Value) (i : Nat) : (T.upd k p j v).sl.getD i zSl = if i = k then (T.tk k, p) else T.sl.getD i zSl := by
  unfold TD.upd
  simp only [List.getD_eq_getElem?_getD, List.getElem?_set]
  by_cases h : k = i
  · subst h; simp [hk]
  · rw [if_neg h, if_neg (fun q => h q.symm)]
theorem upd_pt (T : TD) {k : Nat} (hk : k < T.sl.length) (p : Option Nat) (j : JB) (v : Value) (i : Nat) : (T.upd k p j v).pt i = if i = k then p else T.pt i := by
  unfold TD.pt; rw [upd_get T hk]; split <;> rfl
theorem upd_tk (T : TD) {k : Nat} (hk : k < T.sl.length) (p : Option Nat) (j : JB) (v : Value) (i : Nat) : (T.upd k p j v).tk i = T.tk i := by
  unfold TD.tk; rw [upd_get T hk]
  by_cases h : i = k
  · subst h; rw [if_pos rfl]; rfl
  · rw [if_neg h]
theorem upd_js (T : TD) {k : Nat} (hk : k < T.sl.length) (p : Option Nat) (j : JB) (v : Value) (i : Nat) : (T.upd k p j v).js i = if i = k then p.map (fun _ => j) else T.js i := by
  unfold TD.js
  rw [upd_pt T hk]
  by_cases h : i = k
  · subst h; rw [if_pos rfl, if_pos rfl]; unfold TD.upd; simp
  · rw [if_neg h, if_neg h]; unfold TD.upd; simp [h]
theorem TabA.SA_typed (h : TabA w base g T) : ∀ k, T.SA g k → ∃ t cells, (t = 93 ∨ t = 131 ∨ t = 69) ∧ w.heap[k]? = some (.cells cells t (0, 0)) := by
  rintro k (rfl | ⟨hp, rfl⟩ | ⟨i, hi, hb⟩)
  · exact ⟨93, _, .inl rfl, h.blk⟩
  · obtain ⟨_, rest, hb⟩ := h.row hp
    exact ⟨131, _, .inr (.inl rfl), hb⟩
  · obtain ⟨_, _, hv, _⟩ := h.job i k hi hb
    exact ⟨69, _, .inr (.inr rfl), hv⟩
theorem TabOK.hS_typed (h : TabOK w base g T) : ∀ k, T.hS k → ∃ t cells, (t = 108 ∨ t = 3) ∧ w.heap[k]? = some (.cells cells t (0, 0)) := hok_typed h.hp (fun a ha => own_of ha)
theorem TabOK.S_typed (h : TabOK w base g T) : ∀ k, T.S g k → ∃ t cells, t ∈ [93, 131, 69, 108, 3] ∧ w.heap[k]? = some (.cells cells t (0, 0)) := fun k hk => by
  rcases (T.S_iff g k).1 hk with h1 | h1
  · obtain ⟨t, cells, ht, hc⟩ := h.toTabA.SA_typed k h1
    exact ⟨t, cells, by rcases ht with rfl | rfl | rfl <;> decide, hc⟩
  · obtain ⟨t, cells, ht, hc⟩ := h.hS_typed k h1
    exact ⟨t, cells, by rcases ht with rfl | rfl <;> decide, hc⟩
theorem TabA.low (h : TabA w base g T) : ∀ k, T.SA g k → base ≤ k := by
  rintro k (rfl | ⟨hp, rfl⟩ | ⟨i, hi, hb⟩)
  · exact h.lg
  · exact h.ls hp
  · exact (h.job i k hi hb).1
theorem TabOK.low (h : TabOK w base g T) : ∀ k, T.S g k → base ≤ k := fun k hk => by
  rcases (T.S_iff g k).1 hk with h1 | h1
  · exact h.toTabA.low k h1
  · exact (h.hp.is.low k h1).1
theorem TabOK.lt (h : TabOK w base g T) : ∀ k, T.S g k → k < w.heap.size := fun k hk => by
  obtain ⟨t, cells, _, hc⟩ := h.S_typed k hk
  exact blk_lt hc
theorem TabA.chg {S : Nat → Prop} (h : TabA w base g T) (hk : Chg S w w1) (hS : ∀ k, T.SA g k → ¬ S k) (ho : ∀ k cells, w.heap[k]? = some (.cells cells 76 (0, 0)) → ¬ S k) : TabA w1 base g T :=
  ⟨blk_chg h.blk hk (hS g (.inl rfl)),
   fun hp => by
     obtain ⟨h1, rest, hb⟩ := h.row hp
     exact ⟨h1, rest, blk_chg hb hk (hS T.gs (.inr (.inl ⟨hp, rfl⟩)))⟩,
   fun k b hk' hb => by
     obtain ⟨h1, h2, h3, h4⟩ := h.job k b hk' hb
     exact ⟨h1, h2, blk_chg h3 hk (hS b (.inr (.inr ⟨k, hk', hb⟩))), R_chgT rfl h4 hk ho⟩,
   h.inj, h.lg, h.ls, h.n6, h.rt⟩
theorem TabOK.chg {S : Nat → Prop} (h : TabOK w base g T) (hk : Chg S w w1) (hS : ∀ k, T.S g k → ¬ S k) (ho : ∀ k cells, w.heap[k]? = some (.cells cells 76 (0, 0)) → ¬ S k) : TabOK w1 base g T :=
  ⟨h.toTabA.chg hk (fun k q => hS k ((T.S_iff g k).2 (.inl q))) ho, hok_chg h.hp hk (fun k q => hS k ((T.S_iff g k).2 (.inr q))), h.pl, h.inn, h.due, h.cnt⟩
theorem TabOK.below (h : TabOK w base g T) (hb : Below w.heap.size w w1) : TabOK w1 base g T := h.chg (Chg.of_below hb (fun _ => False)) (fun _ _ q => q) (fun _ _ _ q => q)
theorem TabA.setPt (h : TabA w base g T) {k : Nat} (hk : k < T.sl.length) (p : Option Nat) (j : JB) (v : Value) (hp : ∀ b, p = some b → base ≤ b ∧ j.ok k ∧ (∀ i, i < T.sl.length → i ≠ k → T.pt i ≠ some b) ∧ w.heap[b]? = some (.cells #[.int .i64 j.tsk, .int .i64 j.arr, .int .i64 j.wrk, .int .i64 j.dn, v] 69 (0, 0)) ∧ k76.R 76 w base (fun _ => True) v j.ops) :
    TabA (w.setCell ⟨T.gs, k * 7 + 6, none⟩ (ptrV p)) base g (T.upd k p j v) := by
  have hl := upd_len T k p j v
  obtain ⟨hA, rest, hb⟩ := h.row (by omega)
  have hC := (Chg.refl (fun q => q = T.gs) w).set_ (p := ⟨T.gs, k * 7 + 6, none⟩) (.inl rfl) (ptrV p)
  have ho : ∀ q cells, w.heap[q]? = some (.cells cells 76 (0, 0)) → ¬ (q = T.gs) := fun q cells hc e => by rw [e, hb] at hc; injection hc with hc; injection hc with _ h2; simp at h2
  refine ⟨?_, fun _ => ⟨hA, rest, ?_⟩, fun i b hi hpt => ?_, fun i i' b hi hi' h1 h2 => ?_, h.lg, fun _ => h.ls (by omega), by rw [hl]; exact h.n6, fun i hi => by rw [upd_tk T hk]; exact h.rt i (by rw [hl] at hi; exact hi)⟩
  · rw [hl]
    exact blk_chg h.blk hC (fun e => by have h1 := h.blk; rw [e, hb] at h1; injection h1 with h1; injection h1 with _ h2; simp at h2)
  · have h1 := blk_set hb (k * 7 + 6) (ptrV p)
    have h2 := slots_set T.sl k p hk
    rw [List.setIfInBounds_toArray, List.set_append_left _ _ (by rw [slotsV_len]; omega), h2] at h1
    exact h1
  · rw [hl] at hi
    rw [upd_pt T hk] at hpt
    by_cases e : i = k
    · subst e
      rw [if_pos rfl] at hpt
      obtain ⟨h1, h2, _, h3, h4⟩ := hp b hpt
      have ej : (T.upd i p j v).jb i = j := by unfold TD.upd; simp
      have ev : (T.upd i p j v).ov i = v := by unfold TD.upd; simp
      rw [ej, ev]
      exact ⟨h1, h2, blk_chg h3 hC (fun e => by rw [e, hb] at h3; injection h3 with h3; injection h3 with _ h2; simp at h2), R_chgT rfl h4 hC ho⟩
    · rw [if_neg e] at hpt
      obtain ⟨h1, h2, h3, h4⟩ := h.job i b hi hpt
      have ej : (T.upd k p j v).jb i = T.jb i := by unfold TD.upd; simp [e]
      have ev : (T.upd k p j v).ov i = T.ov i := by unfold TD.upd; simp [e]
      rw [ej, ev]
      exact ⟨h1, h2, blk_chg h3 hC (fun e => by rw [e, hb] at h3; injection h3 with h3; injection h3 with _ h2; simp at h2), R_chgT rfl h4 hC ho⟩
  · rw [hl] at hi hi'
    rw [upd_pt T hk] at h1 h2
    by_cases e : i = k
    · by_cases e' : i' = k
      · rw [e, e']
      · rw [if_pos e] at h1; rw [if_neg e'] at h2
        exact absurd h2 ((hp b h1).2.2.1 i' hi' e')
    · by_cases e' : i' = k
      · rw [if_neg e] at h1; rw [if_pos e'] at h2
        exact absurd h1 ((hp b h2).2.2.1 i hi e)
      · rw [if_neg e] at h1; rw [if_neg e'] at h2
        exact h.inj i i' b hi hi' h1 h2
theorem TabA.chgO {S : Nat → Prop} (h : TabA w base g T) (hk : Chg S w w1) (hS : ∀ k, T.SA g k → ¬ S k) (ho : ∀ q, T.oS q → ¬ S q) : TabA w1 base g T :=
  ⟨blk_chg h.blk hk (hS g (.inl rfl)),
   fun hp => by
     obtain ⟨h1, rest, hb⟩ := h.row hp
     exact ⟨h1, rest, blk_chg hb hk (hS T.gs (.inr (.inl ⟨hp, rfl⟩)))⟩,
   fun k b hk' hb => by
     obtain ⟨h1, h2, h3, h4⟩ := h.job k b hk' hb
     exact ⟨h1, h2, blk_chg h3 hk (hS b (.inr (.inr ⟨k, hk', hb⟩))), Kd.R_mono (R_chg (Kd.R_tight2 rfl h4) hk (fun q hq => ho q ⟨k, hk', by rw [hb]; simp, hq.1.symm⟩)) (fun _ h => h.2)⟩,
   h.inj, h.lg, h.ls, h.n6, h.rt⟩
theorem TabOK.chgO {S : Nat → Prop} (h : TabOK w base g T) (hk : Chg S w w1) (hS : ∀ k, T.S g k → ¬ S k) (ho : ∀ q, T.oS q → ¬ S q) : TabOK w1 base g T :=
  ⟨h.toTabA.chgO hk (fun k q => hS k ((T.S_iff g k).2 (.inl q))) ho, hok_chg h.hp hk (fun k q => hS k ((T.S_iff g k).2 (.inr q))), h.pl, h.inn, h.due, h.cnt⟩
theorem TabA.oS_lt (h : TabA w base g T) : ∀ q, T.oS q → q < w.heap.size := by
  rintro q ⟨i, hi, hp, hq⟩
  cases hb : T.pt i with
  | none => exact absurd hb hp
  | some b => exact Kd.R_lt (h.job i b hi hb).2.2.2 q hq
theorem TabA.putH (h : TabA w base g T) (H : HD) (dm : Nat → Bool) : TabA w base g (T.putH H dm) := ⟨h.blk, h.row, h.job, h.inj, h.lg, h.ls, h.n6, h.rt⟩
theorem TabA.setHi (h : TabA w base g T) (b : Bool) : TabA (w.setCell ⟨g, 2, none⟩ (.bool b)) base g { T with hi := b } := by
  have hC := (Chg.refl (fun q => q = g) w).set_ (p := ⟨g, 2, none⟩) (.inl rfl) (.bool b)
  have hne : ∀ q cells t, t ≠ 93 → w.heap[q]? = some (.cells cells t (0, 0)) → ¬ (q = g) := fun q cells t ht hc e => by
    have h1 := h.blk
    rw [e, h1] at hc; injection hc with hc; injection hc with _ h2; exact ht h2.symm
  refine ⟨?_, fun hp => ?_, fun k b' hk hb => ?_, h.inj, h.lg, h.ls, h.n6, h.rt⟩
  · have h1 := blk_set h.blk 2 (.bool b)
    simpa only [sB] using h1
  · obtain ⟨h1, rest, hb⟩ := h.row hp
    exact ⟨h1, rest, blk_chg hb hC (hne _ _ 131 (by decide) hb)⟩
  · obtain ⟨h1, h2, h3, h4⟩ := h.job k b' hk hb
    exact ⟨h1, h2, blk_chg h3 hC (hne _ _ 69 (by decide) h3), R_chgT rfl h4 hC (fun q cells hc => hne q cells 76 (by decide) hc)⟩
theorem TabA.setDn (h : TabA w base g T) {k b : Nat} (hk : k < T.sl.length) (hb : T.pt k = some b) (n : Int) (hn : 0 ≤ n ∧ n ≤ (T.jb k).wrk) : TabA (w.setCell ⟨b, 3, none⟩ (.int .i64 n)) base g (T.upd k (some b) { T.jb k with dn := n } (T.ov k)) := by
  have hl := upd_len T k (some b) { T.jb k with dn := n } (T.ov k)
  obtain ⟨hb0, hok, hv, hr⟩ := h.job k b hk hb
  have hC := (Chg.refl (fun q => q = b) w).set_ (p := ⟨b, 3, none⟩) (.inl rfl) (.int .i64 n)
  have hne : ∀ q cells t, t ≠ 69 → w.heap[q]? = some (.cells cells t (0, 0)) → ¬ (q = b) := fun q cells t ht hc e => by
    rw [e, hv] at hc; injection hc with hc; injection hc with _ h2; exact ht h2.symm
  have hpt : ∀ i, (T.upd k (some b) { T.jb k with dn := n } (T.ov k)).pt i = T.pt i := fun i => by
    rw [upd_pt T hk]
    by_cases e : i = k
    · rw [if_pos e, e, hb]
    · rw [if_neg e]
  have hsl : (T.upd k (some b) { T.jb k with dn := n } (T.ov k)).sl = T.sl := by
    unfold TD.upd
    have e : (T.tk k, some b) = T.sl[k]'hk := by
      unfold TD.pt at hb; unfold TD.tk
      rw [getD_lt T.sl zSl hk] at hb ⊢
      rw [← hb]
    simp only [e, List.set_getElem_self]
  refine ⟨?_, fun hp => ?_, fun i b' hi hb' => ?_, fun i i' b' hi hi' h1 h2 => ?_, h.lg, fun _ => h.ls (by omega), by rw [hl]; exact h.n6, fun i hi => by rw [upd_tk T hk]; exact h.rt i (by rw [hl] at hi; exact hi)⟩
  · rw [hl]; exact blk_chg h.blk hC (hne _ _ 93 (by decide) h.blk)
  · obtain ⟨h1, rest, hb1⟩ := h.row (by omega)
    rw [hsl]
    exact ⟨h1, rest, blk_chg hb1 hC (hne _ _ 131 (by decide) hb1)⟩
  · rw [hpt] at hb'
    rw [hl] at hi
    by_cases e : i = k
    · subst e
      obtain rfl : b = b' := by rw [hb] at hb'; exact Option.some.inj hb'
      have ej : (T.upd i (some b) { T.jb i with dn := n } (T.ov i)).jb i = { T.jb i with dn := n } := by unfold TD.upd; simp
      have ev : (T.upd i (some b) { T.jb i with dn := n } (T.ov i)).ov i = T.ov i := by unfold TD.upd; simp
      rw [ej, ev]
      refine ⟨hb0, ⟨hok.tsk, hok.arr, hok.wrk, hn, hok.ops⟩, ?_, R_chgT rfl hr hC (fun q cells hc => hne q cells 76 (by decide) hc)⟩
      have h1 := blk_set hv 3 (.int .i64 n)
      simpa only [sB] using h1
    · obtain ⟨h1, h2, h3, h4⟩ := h.job i b' hi hb'
      have ej : (T.upd k (some b) { T.jb k with dn := n } (T.ov k)).jb i = T.jb i := by unfold TD.upd; simp [e]
      have ev : (T.upd k (some b) { T.jb k with dn := n } (T.ov k)).ov i = T.ov i := by unfold TD.upd; simp [e]
      rw [ej, ev]
      exact ⟨h1, h2, blk_chg h3 hC (fun q => e (h.inj i k b hi hk (q ▸ hb') hb)), R_chgT rfl h4 hC (fun q cells hc => hne q cells 76 (by decide) hc)⟩
  · rw [hpt] at h1 h2
    exact h.inj i i' b' (by rw [hl] at hi; exact hi) (by rw [hl] at hi'; exact hi') h1 h2
end
end Go.Proofs.Ytjekfipaadbbbaa.Fn
namespace Go.Proofs.Ytjekfipaadbbbaa.Fn
open Go.RowKit Go.Proofs.YtjekfipaadbbbaaW.PrintWords Go.Proofs.YtjekfipaadbbbaaW.PrintLast Go.Proofs.YtjekfipaadbbbaaW.PrintMore
set_option linter.unusedVariables false
set_option linter.unusedSimpArgs false
structure TRel (T T' : TD) (js' : Nat → Option JB) (hi' : Bool) : Prop where
 len : T'.sl.length = T.sl.length
 tk : ∀ i, T'.tk i = T.tk i
 js : ∀ i, T'.js i = js' i
 hi : T'.hi = hi'
 dm : ∀ i, T'.dm i = T.dm i ∨ T'.dm i = hi'
def TAfter (w w' : World) (base g : Nat) (T : TD) (js' : Nat → Option JB) (hi' : Bool) : Prop := ∃ T', TabOK w' base g T' ∧ TRel T T' js' hi' ∧ Chg (T.S g) w w' ∧ ∀ q, T'.S g q ∨ T'.oS q → (T.S g q ∨ T.oS q) ∨ w.heap.size ≤ q
def TAfter0 (w w' : World) (base g : Nat) (T : TD) (js' : Nat → Option JB) (hi' : Bool) : Prop := ∃ T', TabOK w' base g T' ∧ TRel T T' js' hi' ∧ Chg (T.S g) w w' ∧ ∀ q, T'.S g q ∨ T'.oS q → T.S g q ∨ T.oS q
theorem TAfter0.to {w w' : World} {base g : Nat} {T : TD} {js' : Nat → Option JB} {hi' : Bool} (h : TAfter0 w w' base g T js' hi') : TAfter w w' base g T js' hi' := by
 obtain ⟨T', h1, h2, h3, h4⟩ := h
 exact ⟨T', h1, h2, h3, fun q hq => .inl (h4 q hq)⟩
theorem TAfter.refl {w : World} {base g : Nat} {T : TD} (h : TabOK w base g T) : TAfter w w base g T T.js T.hi := ⟨T, h, ⟨rfl, fun _ => rfl, fun _ => rfl, rfl, fun _ => .inl rfl⟩, Chg.refl _ _, fun _ h => .inl h⟩
def goneJ (T : TD) (k : Nat) : Nat → Option JB := fun i => if i = k then none else T.js i
def putJ (T : TD) (k : Nat) (j : JB) : Nat → Option JB := fun i => if i = k then some j else T.js i
section
variable {w w1 w2 : World} {base g : Nat} {T : TD}
theorem TD.SA_upd (T : TD) {k : Nat} (hk : k < T.sl.length) (p : Option Nat) (j : JB) (v : Value) {q : Nat} (h : (T.upd k p j v).SA g q) : T.SA g q ∨ p = some q := by
 rcases h with h | ⟨hp, h⟩ | ⟨i, hi, hb⟩
 ·exact .inl (.inl h)
 ·exact .inl (.inr (.inl ⟨by omega, h⟩))
 ·rw [upd_len] at hi
  rw [upd_pt T hk] at hb
  by_cases e : i = k
  ·rw [if_pos e] at hb; exact .inr hb
  ·rw [if_neg e] at hb; exact .inl (.inr (.inr ⟨i, hi, hb⟩))
theorem TD.oS_upd (T : TD) {k : Nat} (hk : k < T.sl.length) (p : Option Nat) (j : JB) (v : Value) {q : Nat} (h : (T.upd k p j v).oS q) : T.oS q ∨ (p ≠ none ∧ v.ownBlock = some q) := by
 obtain ⟨i, hi, hp, hq⟩ := h
 rw [upd_len] at hi
 rw [upd_pt T hk] at hp
 by_cases e : i = k
 ·have ev : (T.upd k p j v).ov i = v := by unfold TD.upd; simp [e]
  rw [if_pos e] at hp
  rw [ev] at hq
  exact .inr ⟨hp, hq⟩
 ·have ev : (T.upd k p j v).ov i = T.ov i := by unfold TD.upd; simp [e]
  rw [if_neg e] at hp
  rw [ev] at hq
  exact .inl ⟨i, hi, hp, hq⟩
theorem TabOK.hok_cell (h : TabOK w base g T) {p : Addr} (hp : T.SA g p.block) (u : Value) : HOK (w.setCell p u) base T.gh T.H.A T.H.ca T.H.ats T.H.gp T.H.cp T.H.pls T.H.gd T.H.cd T.H.dus :=
 hok_chg h.hp ((Chg.refl (fun q => q = p.block) w).set_ (.inl rfl) u) (fun q hq e => by
  obtain ⟨t, cells, ht, hc⟩ := h.hS_typed q hq
  obtain ⟨t', cells', ht', hc'⟩ := h.toTabA.SA_typed _ hp
  rw [e] at hc
  rw [hc] at hc'
  injection hc' with hc'
  injection hc' with _ h2
  subst h2
  rcases ht with rfl | rfl <;> rcases ht' with h | h | h <;> cases h)
theorem TabA.heap_chg (h : TabA w base g T) {S : Nat → Prop} (hk : Chg S w w1) (hS : ∀ q, S q → ∃ t cells, (t = 108 ∨ t = 3) ∧ w.heap[q]? = some (.cells cells t (0, 0))) : TabA w1 base g T :=
 h.chg hk (fun q hq hs => by
  obtain ⟨t, cells, ht, hc⟩ := hS q hs
  obtain ⟨t', cells', ht', hc'⟩ := h.SA_typed q hq
  rw [hc] at hc'
  injection hc' with hc'
  injection hc' with _ h2
  subst h2
  rcases ht with rfl | rfl <;> rcases ht' with h | h | h <;> cases h) (fun q cells hc hs => by
  obtain ⟨t, cells', ht, hc'⟩ := hS q hs
  rw [hc] at hc'
  injection hc' with hc'
  injection hc' with _ h2
  subst h2
  rcases ht with h | h <;> cases h)
set_option maxHeartbeats 4000000 in
set_option maxRecDepth 100000 in
theorem tgone0_calls (h : TabOK w base g T) (k b : Nat) (hk : k < T.sl.length) (hb : T.pt k = some b) : Calls Try.prog 91 #[.pointer (some ⟨g, 0, none⟩), .int .i64 (k : Int)] w fun e w' => e = .returned (.tuple #[]) ∧ TAfter0 w w' base g T (goneJ T k) T.hi := by
 have hk6 : k < 6 := by have := h.n6; omega
 have A1 := asd (h.toTabA.setPt hk none (T.jb k) (T.ov k) (fun b q => by cases q))
 have HB1 := asd (h.hok_cell (p := ⟨T.gs, k * 7 + 6, none⟩) (.inr (.inl ⟨by omega, rfl⟩)) (ptrV none))
 have HC1 := asd ((Chg.refl (T.S g) w).set_ (p := ⟨T.gs, k * 7 + 6, none⟩) (.inl (.inr (.inl ⟨by omega, rfl⟩))) (ptrV none))
 have H := asd h
 have hx0 := (blk_cell h.blk 0).trans rfl
 rw [(h.row (by omega)).1] at hx0
 have hz := h.ptc hk
 rw [hb] at hz
 have hz6 : w.cell? ⟨T.gs, k * 7 + 6, none⟩ = some (.pointer (some ⟨b, 0, none⟩)) := hz
 have hzf := h.toTabA.frz (i := k * 7 + 6) (by omega)
 have hy1 : (w.setCell ⟨T.gs, k * 7 + 6, none⟩ (.pointer none)).cell? ⟨g, 1, none⟩ = some (.pointer (some ⟨T.gh, 0, none⟩)) := (blk_cell A1.out.blk 1).trans rfl
 have RC := asd (remove_calls HB1.out (k : Int) (by omega) (by have := h.pl; omega) (by
  rw [Int.toNat_natCast]
  intro q
  have := (h.inn k hk6).1 q
  rw [TD.js_none] at this
  rw [this] at hb; cases hb) (by have := h.cnt; have := numJ_le T.js; omega))
 clear h hz
 have p0 : (0 ≤ (k : Int)) = True := eq_true (by omega)
 have p1 : ((k : Int) < (T.sl.length : Int)) = True := eq_true (by omega)
 have p2 : (k < T.sl.length) = True := eq_true hk
 have hu93 := Try.underlying93
 have hu131 := Try.underlying131
 have HK := asd hk
 have HBB := asd hb
 have HK6 := asd hk6
 clear hk hb hk6
 go_enter Try.func91, Try.ntmps91
 go_wp2_with fail
 refine RC.out.mono ?_
 rintro e w2 ⟨rfl, ⟨ats', pls', h2, hs2, hl2, ha2⟩, hc2⟩
 have FIN : Aside0 (TAfter0 w w2 base g T (goneJ T k) T.hi) := ⟨by
  have hk := HK.out
  have hk6 := HK6.out
  refine ⟨(T.upd k none (T.jb k) (T.ov k)).putH { T.H with ats := ats', pls := pls' } T.dm, ⟨(A1.out.heap_chg hc2 (fun q hq => hok_typed HB1.out (fun a ha => own_of ha) q hq)).putH _ _, h2, hl2.trans H.out.pl, fun id hid => ?_, fun id j hj => ?_, ?_⟩, ⟨upd_len T k none (T.jb k) (T.ov k), fun i => upd_tk T hk none (T.jb k) (T.ov k) i, fun i => upd_js T hk none (T.jb k) (T.ov k) i, rfl, fun _ => .inl rfl⟩, ?_, fun q hq => ?_⟩
  ·have h3 := hs2 id (by rw [List.length_set, H.out.pl]; exact hid)
   rw [Int.toNat_natCast, getD_set, H.out.pl] at h3
   show pls'.getD id 0 = -1 ↔ (T.upd k none (T.jb k) (T.ov k)).js id = none
   rw [h3, upd_js T hk]
   by_cases e : id = k
   ·rw [if_pos e, if_pos ⟨e.symm, hk6⟩]; simp
   ·rw [if_neg e, if_neg (fun q => e q.1.symm)]; exact H.out.inn id hid
  ·have hj' : (T.upd k none (T.jb k) (T.ov k)).js id = some j := hj
   rw [upd_js T hk] at hj'
   by_cases e : id = k
   ·rw [if_pos e] at hj'; cases hj'
   ·rw [if_neg e] at hj'
    show T.H.dus.getD id 0 = dueT (T.dm id) ((T.upd k none (T.jb k) (T.ov k)).tk id) j
    rw [upd_tk T hk]; exact H.out.due id j hj'
  ·show ats'.length = numJ (T.upd k none (T.jb k) (T.ov k)).js
   have e1 : (T.upd k none (T.jb k) (T.ov k)).js = fun i => if i = k then none else T.js i := funext fun i => upd_js T hk none (T.jb k) (T.ov k) i
   have h3 := numJ_set T.js k hk6 none
   have h4 : b2 (T.js k) = 1 := by unfold TD.js; rw [HBB.out]; rfl
   have h5 : b2 none = 0 := rfl
   have h6 := H.out.cnt
   rw [e1]; omega
  ·exact HC1.out.then_ hc2 (fun q hq => .inl ((T.S_iff g q).2 (.inr hq)))
  ·rcases hq with hq | hq
   ·rcases ((T.upd k none (T.jb k) (T.ov k)).putH { T.H with ats := ats', pls := pls' } T.dm).S_iff g q |>.1 hq with h3 | h3
    ·rcases TD.SA_upd T hk none (T.jb k) (T.ov k) (q := q) h3 with h4 | h4
     ·exact .inl ((T.S_iff g q).2 (.inl h4))
     ·cases h4
    ·exact .inl ((T.S_iff g q).2 (.inr h3))
   ·rcases TD.oS_upd T hk none (T.jb k) (T.ov k) (q := q) hq with h4 | h4
    ·exact .inr h4
    ·exact absurd rfl h4.1⟩
 clear h2 hs2 hl2 ha2 hc2
 go_wp2
 go_end0
 exact ⟨rfl, FIN.out⟩
theorem tgone_calls (h : TabOK w base g T) (k b : Nat) (hk : k < T.sl.length) (hb : T.pt k = some b) : Calls Try.prog 91 #[.pointer (some ⟨g, 0, none⟩), .int .i64 (k : Int)] w fun e w' => e = .returned (.tuple #[]) ∧ TAfter w w' base g T (goneJ T k) T.hi := (tgone0_calls h k b hk hb).mono (fun _ _ q => ⟨q.1, q.2.to⟩)
end
end Go.Proofs.Ytjekfipaadbbbaa.Fn
namespace Go.Proofs.Ytjekfipaadbbbaa.Fn
open Go.RowKit Go.Proofs.YtjekfipaadbbbaaW.PrintWords Go.Proofs.YtjekfipaadbbbaaW.PrintLast Go.Proofs.YtjekfipaadbbbaaW.PrintMore
set_option linter.unusedVariables false
set_option linter.unusedSimpArgs false
set_option maxHeartbeats 8000000 in
set_option maxRecDepth 100000 in
theorem oclone_calls (A0 : Option Addr) (c0 : Nat) (l0 : List S76) (w : World) (hr0 : Kd.C k76 w A0 l0.length l0) (hl : l0.length < 1000000) :
  Calls Try.prog 82 #[.slice A0 l0.length c0] w fun e w' => ∃ v0_ : Value, e = .returned (v0_) ∧ Kd.R k76 76 w' w.heap.size (fun _ => True) v0_ l0 ∧ Below w.heap.size w w' := by
 have HR0 := asd hr0
 have HC1 := asd hl
 clear hr0 hl
 have hq := fun (w : World) (a : Option Addr) n c => Lib.run_eql_slice_nil (P := Try.prog) w 67 76 a n c 0 0 Try.underlying67
 cases A0 with
 | none =>
  have e0 : l0 = [] := by
   rcases Nat.eq_zero_or_pos l0.length with h0 | h0
   ·exact List.eq_nil_of_length_eq_zero h0
   ·obtain ⟨ad, h, _⟩ := HR0.out.2.2 h0; cases h
  subst e0
  go_enter Try.func82, Try.ntmps82
  go_wp2
  go_ret
  exact ⟨_, rfl, Kd.R_nil _ _ _ _ _, Below.refl _ _⟩
 | some ad =>
  go_enter Try.func82, Try.ntmps82
  go_wp2_with (first | ((with_reducible refine gate_dst (N := 5) rfl ?_); refine Kd.R_lit k76 _ 76 ?hg (N := 5) ?hd (xs := ([] : List S76)) (inner := []) (ok := fun _ => True) (okp := fun _ => True) ?hr ?hp (fun _ hk => hk) trivial (Below.refl _ _) (Nat.le_refl _) (by simp) ?_; (case hd => rfl); (case hg => rfl); (case hr => first | (go_simp; done) | (go_simp; rfl)); (case hp => exact (Reps.none _ _)); intro v1 w1 ho hb hg hat; have HO := asd ho; have HB := asd hb; clear ho hb hg hat) | ((with_reducible refine gate_builtin (b := .append) (xs := #[.tmp 5, .tmp 6]) rfl ?_); at_builtin; refine Kd.R_append_rows k76 (w0 := w) w.heap.size rfl (.tmp 5) (.tmp 6) 67 76 (.agg #[.int .i64 0, .int .i64 0, .int .i64 0]) 24 rfl Try.underlying67 info76 rfl (by decide) (by omega) v1 [] l0 _ _ _ (fun _ => True) (fun _ => False) rfl rfl ?aO ?aR (fun _ _ h => h) (fun _ h => h.elim) ?aF ?aB ?aS ?aL ?_; (case aR => exact Kd.C_below HR0.out HB.out); (case aB => exact HB.out); (case aF => exact (fun _ _ => trivial)); (case aO => exact HO.out); (case aS => exact HB.out.size); (case aL => have := HC1.out; simp only [List.length_nil]; omega); intro v2 w2 ho2 hb2 hg2 hat2; have HO2 := asd ho2; have HB2 := asd hb2; clear ho2 hb2 hg2 hat2))
  go_ret
  exact ⟨_, rfl, HO2.out, HB2.out⟩
def rjob (arr wrk dn : Int) (ops : List S76) : Bool := decide ((0 ≤ arr ∧ arr ≤ 4611686018427387904) ∧ (1 ≤ wrk ∧ wrk ≤ 1048576) ∧ dn = 0 ∧ ops.length ≤ 64)
theorem rjob_f (k arr wrk dn : Int) (ops : List S76) : tasks_Job_right.f k arr wrk dn ops = some (rjob arr wrk dn ops) := by
 unfold tasks_Job_right.f rjob
 (repeat' split) <;> first | (congr 1; simp only [decide_eq_decide]; omega) | (congr 1; symm; rw [decide_eq_false_iff_not]; omega)
theorem right_job (k arr wrk dn : Int) (A : Option Addr) (c : Nat) (ops : List S76) (w : World) (hr : Kd.C k76 w A ops.length ops) (hc : ops.length ≤ c) : Calls Try.prog 81 #[.agg #[.int .i64 k, .int .i64 arr, .int .i64 wrk, .int .i64 dn, .slice A ops.length c]] w fun e w' => e = .returned (.bool (rjob arr wrk dn ops)) ∧ Below w.heap.size w w' := tasks_Job_right.calls k arr wrk dn A c ops _ w hr hc (rjob_f _ _ _ _ _)
section
variable {w w1 w2 : World} {base g : Nat} {T : TD}
set_option maxHeartbeats 4000000 in
set_option maxRecDepth 100000 in
theorem tput_out (h : TabOK w base g T) (k arr wrk dn : Int) (A : Option Addr) (c : Nat) (ops : List S76) (hk : ¬ (0 ≤ k ∧ k < T.sl.length)) : Calls Try.prog 38 #[.pointer (some ⟨g, 0, none⟩), .agg #[.int .i64 k, .int .i64 arr, .int .i64 wrk, .int .i64 dn, .slice A ops.length c]] w fun e w' => e = .returned (.int .i64 1) ∧ Below w.heap.size w w' := by
 have hu := Try.underlying69
 have Z := asd (heap_alloc_new w (.cells #[.int .i64 k, .int .i64 arr, .int .i64 wrk, .int .i64 dn, .slice A ops.length c] 69))
 have HB := asd (below_alloc (Below.refl w.heap.size w) (.cells #[.int .i64 k, .int .i64 arr, .int .i64 wrk, .int .i64 dn, .slice A ops.length c] 69))
 have NC := asd (tslot_out (h.below HB.out) k hk)
 have hz0 := (blk_cell Z.out 0).trans rfl
 clear h hk
 go_enter Try.func38, Try.ntmps38
 go_wp2_with (first | (go_at_call 80; refine NC.out.mono ?_; rintro e w1 ⟨rfl, rfl⟩))
 go_ret
 exact ⟨rfl, HB.out⟩
set_option maxHeartbeats 4000000 in
set_option maxRecDepth 100000 in
theorem tput_bad (h : TabOK w base g T) (k : Nat) (arr wrk dn : Int) (A : Option Addr) (c : Nat) (ops : List S76) (hk : k < T.sl.length) (hr : Kd.C k76 w A ops.length ops) (hc : ops.length ≤ c) (hj : rjob arr wrk dn ops = false) : Calls Try.prog 38 #[.pointer (some ⟨g, 0, none⟩), .agg #[.int .i64 (k : Int), .int .i64 arr, .int .i64 wrk, .int .i64 dn, .slice A ops.length c]] w fun e w' => e = .returned (.int .i64 1) ∧ Below w.heap.size w w' := by
 have hu := Try.underlying69
 have Z := asd (heap_alloc_new w (.cells #[.int .i64 (k : Int), .int .i64 arr, .int .i64 wrk, .int .i64 dn, .slice A ops.length c] 69))
 have HB := asd (below_alloc (Below.refl w.heap.size w) (.cells #[.int .i64 (k : Int), .int .i64 arr, .int .i64 wrk, .int .i64 dn, .slice A ops.length c] 69))
 have NC := asd (tslot_in (h.below HB.out) k hk)
 have RC := asd (right_job (k : Int) arr wrk dn A c ops _ (Kd.C_below hr HB.out) hc)
 rw [hj] at RC
 have hz0 := (blk_cell Z.out 0).trans rfl
 have hz1 := (blk_cell Z.out 1).trans rfl
 have hz2 := (blk_cell Z.out 2).trans rfl
 have hz3 := (blk_cell Z.out 3).trans rfl
 have hz4 := (blk_cell Z.out 4).trans rfl
 clear h hk hr hc hj
 go_enter Try.func38, Try.ntmps38
 go_wp2_with (first | (go_at_call 80; refine NC.out.mono ?_; rintro e w1 ⟨rfl, rfl⟩) | (go_at_call 81; refine RC.out.mono ?_; rintro e w2 ⟨rfl, hb⟩; have HB2 := asd (below_step HB.out hb); clear hb))
 go_ret
 exact ⟨rfl, HB2.out⟩
end
end Go.Proofs.Ytjekfipaadbbbaa.Fn
namespace Go.Proofs.Ytjekfipaadbbbaa.Fn
open Go.RowKit Go.Proofs.YtjekfipaadbbbaaW.PrintWords Go.Proofs.YtjekfipaadbbbaaW.PrintLast Go.Proofs.YtjekfipaadbbbaaW.PrintMore
set_option linter.unusedVariables false
set_option linter.unusedSimpArgs false
def tkp10T : Bool × List (List Nat × List Nat) := (true, [([], []), ([0], [0]), ([1], [1]), ([2], [2]), ([], []), ([4], [4]), ([], []), ([], []), ([7], [7]), ([8], [8]), ([9], [9]), ([6, 10], [6, 10]), ([3, 5, 11, 11], [3, 5, 11])])
def tkp10B : List Nat := [0, 1, 3, 7, 0, 16, 0, 0, 128, 384, 896, 1984, 4095]
theorem tkp10_tab : rtab .any (opsOf Try.f38 10) = tkp10T := by kernel_rfl
theorem tkp10_bits : waitsOk tkp10T.2 tkp10B = true := by kernel_rfl
section
variable {w w1 w2 : World} {base g : Nat} {T : TD}
set_option maxHeartbeats 8000000 in
set_option maxRecDepth 100000 in
theorem tput_there (h : TabOK w base g T) (k b : Nat) (arr wrk dn : Int) (A : Option Addr) (c : Nat) (ops : List S76) (hk : k < T.sl.length) (hb0 : T.pt k = some b) (hr : Kd.C k76 w A ops.length ops) (hc : ops.length ≤ c) (hj : rjob arr wrk dn ops = true) : Calls Try.prog 38 #[.pointer (some ⟨g, 0, none⟩), .agg #[.int .i64 (k : Int), .int .i64 arr, .int .i64 wrk, .int .i64 dn, .slice A ops.length c]] w fun e w' => e = .returned (.int .i64 4) ∧ Below w.heap.size w w' := by
 have hu := Try.underlying69
 have hu131 := Try.underlying131
 have hu93 := Try.underlying93
 have hu45 := Try.underlying45
 have Z := asd (heap_alloc_new w (.cells #[.int .i64 (k : Int), .int .i64 arr, .int .i64 wrk, .int .i64 dn, .slice A ops.length c] 69))
 have HB := asd (below_alloc (Below.refl w.heap.size w) (.cells #[.int .i64 (k : Int), .int .i64 arr, .int .i64 wrk, .int .i64 dn, .slice A ops.length c] 69))
 have NC := asd (tslot_in (h.below HB.out) k hk)
 have RC := asd (right_job (k : Int) arr wrk dn A c ops _ (Kd.C_below hr HB.out) hc)
 rw [hj] at RC
 have hz0 := (blk_cell Z.out 0).trans rfl
 have hz1 := (blk_cell Z.out 1).trans rfl
 have hz2 := (blk_cell Z.out 2).trans rfl
 have hz3 := (blk_cell Z.out 3).trans rfl
 have hz4 := (blk_cell Z.out 4).trans rfl
 have H := asd h
 have HK := asd hk
 have HR := asd hr
 have HCC := asd hc
 have HPT := asd hb0
 clear h hk hr hc hj hb0
 go_enter Try.func38, Try.ntmps38
 go_wp2_with (first | (go_at_call 80; refine NC.out.mono ?_; rintro e w1 ⟨rfl, rfl⟩))
 refine RC.out.mono ?_
 rintro e w2 ⟨rfl, hb⟩
 have HB2 := asd (below_step HB.out hb)
 have hp6 : w2.cell? ⟨T.gs, k * 7 + 6, none⟩ = some (.pointer (some ⟨b, 0, none⟩)) := by
  have := (H.out.below HB2.out).toTabA.ptc HK.out
  rw [HPT.out] at this; exact this
 clear hb hz0 hz1 hz2 hz3 hz4
 go_wp2
 go_ret
 exact ⟨rfl, HB2.out⟩
set_option maxHeartbeats 8000000 in
set_option maxRecDepth 100000 in
theorem tput_drop (h : TabOK w base g T) (k : Nat) (arr wrk dn : Int) (A : Option Addr) (c : Nat) (ops : List S76) (hk : k < T.sl.length) (hb0 : T.pt k = none) (hh : T.hi = true) (hf : (T.tk k).f0 = false) (hr : Kd.C k76 w A ops.length ops) (hc : ops.length ≤ c) (hj : rjob arr wrk dn ops = true) : Calls Try.prog 38 #[.pointer (some ⟨g, 0, none⟩), .agg #[.int .i64 (k : Int), .int .i64 arr, .int .i64 wrk, .int .i64 dn, .slice A ops.length c]] w fun e w' => e = .returned (.int .i64 42) ∧ Below w.heap.size w w' := by
 have hu := Try.underlying69
 have hu131 := Try.underlying131
 have hu93 := Try.underlying93
 have hu45 := Try.underlying45
 have Z := asd (heap_alloc_new w (.cells #[.int .i64 (k : Int), .int .i64 arr, .int .i64 wrk, .int .i64 dn, .slice A ops.length c] 69))
 have HB := asd (below_alloc (Below.refl w.heap.size w) (.cells #[.int .i64 (k : Int), .int .i64 arr, .int .i64 wrk, .int .i64 dn, .slice A ops.length c] 69))
 have NC := asd (tslot_in (h.below HB.out) k hk)
 have RC := asd (right_job (k : Int) arr wrk dn A c ops _ (Kd.C_below hr HB.out) hc)
 rw [hj] at RC
 have hz0 := (blk_cell Z.out 0).trans rfl
 have hz1 := (blk_cell Z.out 1).trans rfl
 have hz2 := (blk_cell Z.out 2).trans rfl
 have hz3 := (blk_cell Z.out 3).trans rfl
 have hz4 := (blk_cell Z.out 4).trans rfl
 have H := asd h
 have HK := asd hk
 have HR := asd hr
 have HCC := asd hc
 have HPT := asd hb0
 have HHI := asd (And.intro hh hf)
 clear h hk hr hc hj hb0 hh hf
 go_enter Try.func38, Try.ntmps38
 go_wp2_with (first | (go_at_call 80; refine NC.out.mono ?_; rintro e w1 ⟨rfl, rfl⟩))
 refine RC.out.mono ?_
 rintro e w2 ⟨rfl, hb⟩
 have HB2 := asd (below_step HB.out hb)
 have hp6 : w2.cell? ⟨T.gs, k * 7 + 6, none⟩ = some (.pointer none) := by
  have := (H.out.below HB2.out).toTabA.ptc HK.out
  rw [HPT.out] at this; exact this
 have hp0 : w2.cell? ⟨T.gs, k * 7, none⟩ = some (.bool false) := by
  have h1 : w2.cell? ⟨T.gs, k * 7 + 0, none⟩ = some (.bool (T.tk k).f0) := ((H.out.below HB2.out).toTabA.cell HK.out (by omega : 0 < 7)).trans rfl
  rw [HHI.out.2] at h1; exact h1
 have hg2 : w2.cell? ⟨g, 2, none⟩ = some (.bool true) := by
  have h1 : w2.cell? ⟨g, 2, none⟩ = some (.bool T.hi) := (blk_cell (H.out.below HB2.out).blk 2).trans rfl
  rw [HHI.out.1] at h1; exact h1
 clear hb hz0 hz1 hz2 hz3 hz4
 go_wp2
 go_ret
 exact ⟨rfl, HB2.out⟩
set_option maxHeartbeats 8000000 in
set_option maxRecDepth 100000 in
theorem tput_ok (h : TabOK w base g T) (k : Nat) (arr wrk : Int) (A : Option Addr) (c : Nat) (ops : List S76) (hk : k < T.sl.length) (hb0 : T.pt k = none) (hh : T.hi = false ∨ (T.tk k).f0 = true) (hr : Kd.C k76 w A ops.length ops) (hc : ops.length ≤ c) (hj : rjob arr wrk 0 ops = true) : Calls Try.prog 38 #[.pointer (some ⟨g, 0, none⟩), .agg #[.int .i64 (k : Int), .int .i64 arr, .int .i64 wrk, .int .i64 0, .slice A ops.length c]] w fun e w' => e = .returned (.int .i64 0) ∧ TAfter w w' base g T (putJ T k ⟨k, arr, wrk, 0, ops⟩) T.hi := by
 have hu := Try.underlying69
 have hu131 := Try.underlying131
 have hu93 := Try.underlying93
 have hu45 := Try.underlying45
 have Z := asd (heap_alloc_new w (.cells #[.int .i64 (k : Int), .int .i64 arr, .int .i64 wrk, .int .i64 0, .slice A ops.length c] 69))
 have HB := asd (below_alloc (Below.refl w.heap.size w) (.cells #[.int .i64 (k : Int), .int .i64 arr, .int .i64 wrk, .int .i64 0, .slice A ops.length c] 69))
 have NC := asd (tslot_in (h.below HB.out) k hk)
 have RC := asd (right_job (k : Int) arr wrk 0 A c ops _ (Kd.C_below hr HB.out) hc)
 rw [hj] at RC
 have hz0 := (blk_cell Z.out 0).trans rfl
 have hz1 := (blk_cell Z.out 1).trans rfl
 have hz2 := (blk_cell Z.out 2).trans rfl
 have hz3 := (blk_cell Z.out 3).trans rfl
 have hz4 := (blk_cell Z.out 4).trans rfl
 have H := asd h
 have HK := asd hk
 have HR := asd hr
 have HCC := asd hc
 have HPT := asd hb0
 have JO : Aside0 ((⟨k, arr, wrk, 0, ops⟩ : JB).ok k) := ⟨by
  have h1 : (0 ≤ arr ∧ arr ≤ 4611686018427387904) ∧ (1 ≤ wrk ∧ wrk ≤ 1048576) ∧ (0 : Int) = 0 ∧ ops.length ≤ 64 := of_decide_eq_true hj
  exact ⟨rfl, h1.1, h1.2.1, ⟨by simp, by show (0 : Int) ≤ wrk; omega⟩, h1.2.2.2⟩⟩
 obtain ⟨bj, hbj⟩ : ∃ bj, w.heap.size = bj := ⟨_, rfl⟩
 have BJ : Aside0 (w.heap.size = bj) := ⟨hbj⟩
 have HF0 : Aside0 (T.hi = false ∨ (T.tk k).f0 = true) := ⟨hh⟩
 clear h hk hr hc hj hb0 hh hbj
 go_enter Try.func38, Try.ntmps38
 go_wp2_with (first | (go_at_call 80; refine NC.out.mono ?_; rintro e w1 ⟨rfl, rfl⟩))
 refine RC.out.mono ?_
 rintro e w2 ⟨rfl, hb⟩
 have HB2 := asd (below_step HB.out hb)
 have Z2 : Aside0 (w2.heap[bj]? = some (.cells #[.int .i64 (k : Int), .int .i64 arr, .int .i64 wrk, .int .i64 0, .slice A ops.length c] 69 (0, 0))) := ⟨by rw [← BJ.out]; exact blk_below Z.out hb⟩
 have hp6 : w2.cell? ⟨T.gs, k * 7 + 6, none⟩ = some (.pointer none) := by
  have := (H.out.below HB2.out).toTabA.ptc HK.out
  rw [HPT.out] at this; exact this
 have hp0 : w2.cell? ⟨T.gs, k * 7, none⟩ = some (.bool (T.tk k).f0) := by
  have h1 : w2.cell? ⟨T.gs, k * 7 + 0, none⟩ = some (.bool (T.tk k).f0) := ((H.out.below HB2.out).toTabA.cell HK.out (by omega : 0 < 7)).trans rfl
  exact h1
 have hg2 : w2.cell? ⟨g, 2, none⟩ = some (.bool T.hi) := (blk_cell (H.out.below HB2.out).blk 2).trans rfl
 have hy4 := (blk_cell Z2.out 4).trans rfl
 have HCL := asd (oclone_calls A c ops w2 (Kd.C_below HR.out HB2.out) (by have h := JO.out.ops; simp only at h; omega))
 rw [BJ.out]
 clear hb hz0 hz1 hz2 hz3 hz4 RC NC
 by_cases hhi : T.hi = false
 ·rw [hhi] at hg2
  clear hhi
  go_wp2_with fail
  refine HCL.out.mono ?_
  rintro e w3 ⟨v, rfl, hv, hb3⟩
  obtain ⟨Av, cv, rfl⟩ := Kd.R_slice hv
  have Z3 := asd (blk_below Z2.out hb3)
  have HV := asd hv
  have HB3 := asd (below_step HB2.out hb3)
  clear hb3 hv HCL hp0 hg2 hy4 hp6
  have hy4 := (blk_cell Z3.out 4).trans rfl
  have hyf := blk_frozen Z3.out 4
  have HB4 : Aside0 (Below w.heap.size w (w3.setCell ⟨bj, 4, none⟩ (.slice Av ops.length cv))) := ⟨HB3.out.setCell (by have := BJ.out; exact Nat.le_of_eq this) (.slice Av ops.length cv)⟩
  have H4 := asd (H.out.below HB4.out)
  have Z4 : Aside0 ((w3.setCell ⟨bj, 4, none⟩ (.slice Av ops.length cv)).heap[bj]? = some (.cells #[.int .i64 (k : Int), .int .i64 arr, .int .i64 wrk, .int .i64 0, .slice Av ops.length cv] 69 (0, 0))) := ⟨by
   have h1 := blk_set Z3.out 4 (.slice Av ops.length cv)
   simpa only [sB] using h1⟩
  have BJB : Aside0 (base ≤ bj) := ⟨by have h1 := H.out.lg; have h2 := blk_lt H.out.blk; have := BJ.out; omega⟩
  have A5 := asd (H4.out.toTabA.setPt HK.out (some bj) ⟨k, arr, wrk, 0, ops⟩ (.slice Av ops.length cv) (fun b hb => by
   obtain rfl := Option.some.inj hb
   refine ⟨BJB.out, JO.out, fun i hi _ q => ?_, Z4.out, ?_⟩
   ·have := H.out.lt bj ((T.S_iff g bj).2 (.inl (.inr (.inr ⟨i, hi, q⟩))))
    have := BJ.out; omega
   ·exact Kd.R_set (Kd.R_lower HV.out (by have := HB2.out.size; have := BJ.out; have := BJB.out; omega)) Z3.out (by decide) 4 (.slice Av ops.length cv)))
  have HOK5 := asd (H4.out.hok_cell (p := ⟨T.gs, k * 7 + 6, none⟩) (.inr (.inl ⟨by have := HK.out; omega, rfl⟩)) (ptrV (some bj)))
  have HC5 := asd ((Chg.of_below HB4.out (T.S g)).set_ (p := ⟨T.gs, k * 7 + 6, none⟩) (.inl (.inr (.inl ⟨by have := HK.out; omega, rfl⟩))) (ptrV (some bj)))
  have hp6 : (w3.setCell ⟨bj, 4, none⟩ (.slice Av ops.length cv)).cell? ⟨T.gs, k * 7 + 6, none⟩ = some (.pointer none) := by
   have := H4.out.toTabA.ptc HK.out
   rw [HPT.out] at this; exact this
  have hpf := H4.out.toTabA.frz (i := k * 7 + 6) (by have := HK.out; omega)
  have Z5 : Aside0 (((w3.setCell ⟨bj, 4, none⟩ (.slice Av ops.length cv)).setCell ⟨T.gs, k * 7 + 6, none⟩ (ptrV (some bj))).heap[bj]? = some (.cells #[.int .i64 (k : Int), .int .i64 arr, .int .i64 wrk, .int .i64 0, .slice Av ops.length cv] 69 (0, 0))) := ⟨by
   obtain ⟨_, rest, hb⟩ := H4.out.row (by have := HK.out; omega)
   exact blk_far Z4.out (p := ⟨T.gs, k * 7 + 6, none⟩) (blk_ne Z4.out hb (by decide)) _⟩
  clear Z2 Z3
  have PTB : Aside0 ((T.upd k (some bj) ⟨k, arr, wrk, 0, ops⟩ (.slice Av ops.length cv)).pt k = some bj) := ⟨by rw [upd_pt T HK.out, if_pos rfl]⟩
  have DU : Aside0 (∀ wx, TabA wx base g (T.upd k (some bj) ⟨k, arr, wrk, 0, ops⟩ (.slice Av ops.length cv)) → Calls Try.prog 83 #[.pointer (some ⟨T.gs, k * 7, none⟩), .bool T.hi] wx fun e w' => e = .returned (.int .i64 (dueT T.hi (T.tk k) ⟨k, arr, wrk, 0, ops⟩)) ∧ Below wx.heap.size wx w') := ⟨fun wx hx => by
   have h1 := tdue_calls hx k bj (by rw [upd_len]; exact HK.out) PTB.out T.hi
   have e1 : (T.upd k (some bj) ⟨k, arr, wrk, 0, ops⟩ (.slice Av ops.length cv)).jb k = ⟨k, arr, wrk, 0, ops⟩ := by unfold TD.upd; simp
   rw [upd_tk T HK.out, e1] at h1
   exact h1⟩
  have PC : Aside0 (∀ wx, HOK wx base T.gh T.H.A T.H.ca T.H.ats T.H.gp T.H.cp T.H.pls T.H.gd T.H.cd T.H.dus → _) := ⟨fun wx hx => put_calls hx (k : Int) (dueT T.hi (T.tk k) ⟨k, arr, wrk, 0, ops⟩) (by omega) (by have := H.out.pl; have := H.out.n6; have := HK.out; omega) (by
   rw [Int.toNat_natCast]
   exact (H.out.inn k (by have := H.out.n6; have := HK.out; omega)).2 (TD.js_none.2 HPT.out)) (by have := H.out.cnt; have := numJ_le T.js; omega)⟩
  go_wp2
  have e5 : (w3.setCell ⟨bj, 4, none⟩ (.slice Av ops.length cv)).setCell ⟨T.gs, k * 7 + 6, none⟩ (.pointer (some ⟨bj, 0, none⟩)) = (w3.setCell ⟨bj, 4, none⟩ (.slice Av ops.length cv)).setCell ⟨T.gs, k * 7 + 6, none⟩ (ptrV (some bj)) := rfl
  rw [e5]
  generalize (w3.setCell ⟨bj, 4, none⟩ (.slice Av ops.length cv)).setCell ⟨T.gs, k * 7 + 6, none⟩ (ptrV (some bj)) = w5 at A5 HOK5 HC5 Z5 ⊢
  clear hp6 hpf e5 hy4 hyf
  refine start_ (n := 13) (S := fun w' => w'.cell? ⟨g, 1, none⟩ = some (.pointer (some ⟨T.gh, 0, none⟩)) ∧ w'.cell? ⟨bj, 0, none⟩ = some (.int .i64 (k : Int)) ∧ w'.cell? ⟨g, 2, none⟩ = some (.bool T.hi)) (ds := [12]) #[false, false, false, false, false, false, false, false, false, false, false, false, false] (by kernel_rfl) rfl rfl ⟨(blk_cell A5.out.blk 1).trans rfl, (blk_cell Z5.out 0).trans rfl, (blk_cell A5.out.blk 2).trans rfl⟩ (fun hHeld => ?_); refine with_tabW tkp10_tab tkp10_bits (fun HT_ HW_ => ?_)
  have A6 := asd (A5.out.chg ((Chg.refl (fun _ => False) w5).drew) (fun _ _ q => q) (fun _ _ _ q => q))
  have Z6 := asd (blk_drew Z5.out)
  have HOK6 := asd (hok_chg HOK5.out ((Chg.refl (fun _ => False) w5).drew) (fun _ _ q => q))
  have HC6 := asd (HC5.out.drew)
  clear A5 Z5 HOK5 HC5 hHeld
  generalize w5.drew = w6 at A6 Z6 HOK6 HC6 ⊢
  have hHeld : w6.cell? ⟨g, 1, none⟩ = some (.pointer (some ⟨T.gh, 0, none⟩)) ∧ w6.cell? ⟨bj, 0, none⟩ = some (.int .i64 (k : Int)) ∧ w6.cell? ⟨g, 2, none⟩ = some (.bool T.hi) := ⟨(blk_cell A6.out.blk 1).trans rfl, (blk_cell Z6.out 0).trans rfl, (blk_cell A6.out.blk 2).trans rfl⟩
  refine pure_ (i := 0) (N := (some 44)) (v := ?_) (a' := ?_) #[true, false, false, false, false, false, false, false, false, false, false, false, false] rfl rfl (any_of HT_.out (by kernel_rfl)) (fun _ _ _ h => h) (Or.inl ⟨by rfl, ?_⟩) ?_ ?_
  rotate_left
  ·intro w'
   go_simp
   with_reducible rfl
  rotate_left
  ·simp only [Act.put, sB, i64_w, i32_w]
   rfl
  refine pure_ (i := 1) (N := (some 45)) (v := ?_) (a' := ?_) #[true, true, false, false, false, false, false, false, false, false, false, false, false] rfl rfl (any_of HT_.out (by kernel_rfl)) (fun _ _ _ h => h) (Or.inl ⟨by rfl, ?_⟩) ?_ ?_
  rotate_left
  ·intro w'
   go_simp
   with_reducible rfl
  rotate_left
  ·simp only [Act.put, sB, i64_w, i32_w]
   rfl
  refine pure_ (i := 2) (N := (some 46)) (v := ?_) (a' := ?_) #[true, true, true, false, false, false, false, false, false, false, false, false, false] rfl rfl (any_of HT_.out (by kernel_rfl)) (fun _ _ _ h => h) (Or.inl ⟨by rfl, ?_⟩) ?_ ?_
  rotate_left
  ·intro w'
   go_simp
   with_reducible rfl
  rotate_left
  ·simp only [Act.put, sB, i64_w, i32_w]
   rfl
  refine take_ (i := 3) (N := (some 47)) (v := ?_) (a' := ?_) #[true, true, true, true, false, false, false, false, false, false, false, false, false] rfl rfl (take_ofW HT_.out HW_.out (by kernel_rfl)) (fun _ _ _ h => h) (Or.inl ⟨by rfl, ?_⟩) hHeld ?_ ?_
  rotate_left
  ·rintro w' ⟨s0, s1, s2⟩
   go_simp
   with_reducible rfl
  rotate_left
  ·simp only [Act.put, sB, i64_w, i32_w]
   rfl
  refine pure_ (i := 4) (N := (some 48)) (v := ?_) (a' := ?_) #[true, true, true, true, true, false, false, false, false, false, false, false, false] rfl rfl (any_of HT_.out (by kernel_rfl)) (fun _ _ _ h => h) (Or.inl ⟨by rfl, ?_⟩) ?_ ?_
  rotate_left
  ·intro w'
   go_simp
   with_reducible rfl
  rotate_left
  ·simp only [Act.put, sB, i64_w, i32_w]
   rfl
  refine take_ (i := 5) (N := (some 49)) (v := ?_) (a' := ?_) #[true, true, true, true, true, true, false, false, false, false, false, false, false] rfl rfl (take_ofW HT_.out HW_.out (by kernel_rfl)) (fun _ _ _ h => h) (Or.inl ⟨by rfl, ?_⟩) hHeld ?_ ?_
  rotate_left
  ·rintro w' ⟨s0, s1, s2⟩
   go_simp
   with_reducible rfl
  rotate_left
  ·simp only [Act.put, sB, i64_w, i32_w]
   rfl
  refine pure_ (i := 6) (N := (some 50)) (v := ?_) (a' := ?_) #[true, true, true, true, true, true, true, false, false, false, false, false, false] rfl rfl (any_of HT_.out (by kernel_rfl)) (fun _ _ _ h => h) (Or.inl ⟨by rfl, ?_⟩) ?_ ?_
  rotate_left
  ·intro w'
   go_simp
   with_reducible rfl
  rotate_left
  ·simp only [Act.put, sB, i64_w, i32_w]
   rfl
  refine pure_ (i := 7) (N := (some 51)) (v := ?_) (a' := ?_) #[true, true, true, true, true, true, true, true, false, false, false, false, false] rfl rfl (any_of HT_.out (by kernel_rfl)) (fun _ _ _ h => h) (Or.inl ⟨by rfl, ?_⟩) ?_ ?_
  rotate_left
  ·intro w'
   go_simp
   with_reducible rfl
  rotate_left
  ·simp only [Act.put, sB, i64_w, i32_w]
   rfl
  refine pure_ (i := 8) (N := (some 52)) (v := ?_) (a' := ?_) #[true, true, true, true, true, true, true, true, true, false, false, false, false] rfl rfl (any_of HT_.out (by kernel_rfl)) (fun _ _ _ h => h) (Or.inl ⟨by rfl, ?_⟩) ?_ ?_
  rotate_left
  ·intro w'
   go_simp
   with_reducible rfl
  rotate_left
  ·simp only [Act.put, sB, i64_w, i32_w]
   rfl
  refine pure_ (i := 9) (N := (some 53)) (v := ?_) (a' := ?_) #[true, true, true, true, true, true, true, true, true, true, false, false, false] rfl rfl (any_of HT_.out (by kernel_rfl)) (fun _ _ _ h => h) (Or.inl ⟨by rfl, ?_⟩) ?_ ?_
  rotate_left
  ·intro w'
   go_simp
   with_reducible rfl
  rotate_left
  ·simp only [Act.put, sB, i64_w, i32_w]
   rfl
  refine take_ (i := 10) (N := (some 54)) (v := ?_) (a' := ?_) #[true, true, true, true, true, true, true, true, true, true, true, false, false] rfl rfl (take_ofW HT_.out HW_.out (by kernel_rfl)) (fun _ _ _ h => h) (Or.inl ⟨by rfl, ?_⟩) hHeld ?_ ?_
  rotate_left
  ·rintro w' ⟨s0, s1, s2⟩
   go_simp
   with_reducible rfl
  rotate_left
  ·simp only [Act.put, sB, i64_w, i32_w]
   rfl
  refine one_ (i := 11) (N := (some 55)) #[true, true, true, true, true, true, true, true, true, true, true, true, false] rfl rfl (one_of HT_.out (by kernel_rfl)) (by decide) (fun K hK => ?_)
  refine goes_ Try.func83 (by kernel_rfl) rfl #[.pointer (some ⟨T.gs, k * 7, none⟩), .bool T.hi] (by rfl) rfl rfl (by simp [Act.eval]) ?_
  refine (DU.out w6 A6.out).mono ?_
  rintro e w7 ⟨rfl, hb7⟩
  have A7 := asd (A6.out.chg (Chg.of_below hb7 (fun _ => False)) (fun _ _ q => q) (fun _ _ _ q => q))
  have Z7 := asd (blk_below Z6.out hb7)
  have HOK7 := asd (hok_chg HOK6.out (Chg.of_below hb7 (fun _ => False)) (fun _ _ q => q))
  have HC7 := asd (HC6.out.below hb7)
  clear hb7 A6 Z6 HOK6 HC6
  refine ⟨_, rfl, ?_⟩
  refine hK.out _ _ ⟨(blk_cell A7.out.blk 1).trans rfl, (blk_cell Z7.out 0).trans rfl, (blk_cell A7.out.blk 2).trans rfl⟩ (fun hHeld => ?_)
  clear hK K
  refine norm_ (a' := ?_) ?_ ?_
  rotate_left
  ·show Act.put _ (some 55) _ = _
   simp only [Act.put, sB, i64_w, i32_w]
   rfl
  refine last_ (i := 12) (N := (some 56)) #[true, true, true, true, true, true, true, true, true, true, true, true, true] rfl rfl (one_of HT_.out (by kernel_rfl)) (by decide) (fun K hK => ?_)
  refine goes_ Try.func30 (by kernel_rfl) rfl #[.pointer (some ⟨T.gh, 0, none⟩), .int .i64 (k : Int), .int .i64 (dueT T.hi (T.tk k) ⟨k, arr, wrk, 0, ops⟩)] (by rfl) rfl rfl (by simp [Act.eval]) ?_
  refine (PC.out w7 HOK7.out).mono ?_
  rintro e w8 ⟨rfl, ⟨A', ca', ats', pls', h8, hs8, hl8, ha8, hn8⟩, hc8⟩
  have FIN : Aside0 (TAfter w w8 base g T (putJ T k ⟨k, arr, wrk, 0, ops⟩) T.hi) := ⟨by
   have hk := HK.out
   have hk6 : k < 6 := by have := H.out.n6; omega
   rw [Int.toNat_natCast] at h8 hs8
   refine ⟨(T.upd k (some bj) ⟨k, arr, wrk, 0, ops⟩ (.slice Av ops.length cv)).putH ⟨A', ca', ats', T.H.gp, T.H.cp, pls', T.H.gd, T.H.cd, T.H.dus.set k (dueT T.hi (T.tk k) ⟨k, arr, wrk, 0, ops⟩)⟩ (fun i => if i = k then T.hi else T.dm i), ⟨(A7.out.heap_chg hc8 (fun q hq => hok_typed HOK7.out (fun a ha => own_of ha) q hq)).putH _ _, h8, hl8.trans H.out.pl, fun id hid => ?_, fun id j hj => ?_, ?_⟩, ⟨upd_len T k (some bj) ⟨k, arr, wrk, 0, ops⟩ (.slice Av ops.length cv), fun i => upd_tk T hk (some bj) ⟨k, arr, wrk, 0, ops⟩ (.slice Av ops.length cv) i, fun i => upd_js T hk (some bj) ⟨k, arr, wrk, 0, ops⟩ (.slice Av ops.length cv) i, rfl, fun i => by
     by_cases e : i = k
     ·exact .inr (if_pos e)
     ·exact .inl (if_neg e)⟩, ?_, fun q hq => ?_⟩
   ·have h3 := hs8 id (by rw [List.length_set, H.out.pl]; exact hid)
    rw [getD_set, H.out.pl] at h3
    show pls'.getD id 0 = -1 ↔ (T.upd k (some bj) ⟨k, arr, wrk, 0, ops⟩ (.slice Av ops.length cv)).js id = none
    rw [h3, upd_js T hk]
    by_cases e : id = k
    ·rw [if_pos e, if_pos ⟨e.symm, hk6⟩]; simp
    ·rw [if_neg e, if_neg (fun q => e q.1.symm)]; exact H.out.inn id hid
   ·have hj' : (T.upd k (some bj) ⟨k, arr, wrk, 0, ops⟩ (.slice Av ops.length cv)).js id = some j := hj
    rw [upd_js T hk] at hj'
    show (T.H.dus.set k (dueT T.hi (T.tk k) ⟨k, arr, wrk, 0, ops⟩)).getD id 0 = dueT (if id = k then T.hi else T.dm id) ((T.upd k (some bj) ⟨k, arr, wrk, 0, ops⟩ (.slice Av ops.length cv)).tk id) j
    rw [upd_tk T hk, getD_set]
    by_cases e : id = k
    ·rw [if_pos e] at hj'
     obtain rfl := Option.some.inj hj'
     rw [if_pos e, if_pos ⟨e.symm, by have := H.out.hp.li.len; have := H.out.pl; omega⟩, e]
    ·rw [if_neg e] at hj'
     rw [if_neg e, if_neg (fun q => e q.1.symm)]; exact H.out.due id j hj'
   ·show ats'.length = numJ (T.upd k (some bj) ⟨k, arr, wrk, 0, ops⟩ (.slice Av ops.length cv)).js
    have e1 : (T.upd k (some bj) ⟨k, arr, wrk, 0, ops⟩ (.slice Av ops.length cv)).js = fun i => if i = k then some ⟨k, arr, wrk, 0, ops⟩ else T.js i := funext fun i => upd_js T hk (some bj) ⟨k, arr, wrk, 0, ops⟩ (.slice Av ops.length cv) i
    have h3 := numJ_set T.js k hk6 (some ⟨k, arr, wrk, 0, ops⟩)
    have h4 : b2 (T.js k) = 0 := by rw [TD.js_none.2 HPT.out]; rfl
    have h5 : b2 (some (⟨k, arr, wrk, 0, ops⟩ : JB)) = 1 := rfl
    have h6 := H.out.cnt
    rw [e1]; omega
   ·exact HC7.out.then_ hc8 (fun q hq => .inl ((T.S_iff g q).2 (.inr hq)))
   ·rcases hq with hq | hq
    ·rcases ((T.upd k (some bj) ⟨k, arr, wrk, 0, ops⟩ (.slice Av ops.length cv)).putH ⟨A', ca', ats', T.H.gp, T.H.cp, pls', T.H.gd, T.H.cd, T.H.dus.set k (dueT T.hi (T.tk k) ⟨k, arr, wrk, 0, ops⟩)⟩ (fun i => if i = k then T.hi else T.dm i)).S_iff g q |>.1 hq with h3 | h3
     ·rcases TD.SA_upd T hk (some bj) ⟨k, arr, wrk, 0, ops⟩ (.slice Av ops.length cv) (q := q) h3 with h4 | h4
      ·exact .inl (.inl ((T.S_iff g q).2 (.inl h4)))
      ·exact .inr (by have := Option.some.inj h4; have := BJ.out; omega)
     ·rcases heapS_new hn8 (k := q) h3 with h4 | h4
      ·exact .inl (.inl ((T.S_iff g q).2 (.inr h4)))
      ·exact .inr (by have := HC7.out.size; omega)
    ·rcases TD.oS_upd T hk (some bj) ⟨k, arr, wrk, 0, ops⟩ (.slice Av ops.length cv) (q := q) hq with h4 | h4
     ·exact .inl (.inr h4)
     ·exact .inr (by have := Kd.R_base HV.out q h4.2; have := HB2.out.size; omega)⟩
  clear h8 hs8 hl8 ha8 hn8 hc8 A7 Z7 HOK7 HC7
  refine ⟨_, rfl, ?_⟩
  refine hK.out _ _ ?_
  clear hK K
  refine norm_ (a' := ?_) ?_ ?_
  rotate_left
  ·show Act.put _ (some 56) _ = _
   simp only [Act.put, sB, i64_w, i32_w]
   rfl
  refine done_ (done_of HT_.out (by kernel_rfl)) ?_
  try go_wp2
  go_wp2
  go_ret
  exact ⟨rfl, FIN.out⟩
 ·have hh2 : T.hi = true := by cases h : T.hi with
   | true => rfl
   | false => exact absurd h hhi
  have hf2 : (T.tk k).f0 = true := HF0.out.elim (fun q => absurd q hhi) (fun q => q)
  rw [hh2] at hg2
  rw [hf2] at hp0
  clear hhi hh2 hf2
  go_wp2_with fail
  refine HCL.out.mono ?_
  rintro e w3 ⟨v, rfl, hv, hb3⟩
  obtain ⟨Av, cv, rfl⟩ := Kd.R_slice hv
  have Z3 := asd (blk_below Z2.out hb3)
  have HV := asd hv
  have HB3 := asd (below_step HB2.out hb3)
  clear hb3 hv HCL hp0 hg2 hy4 hp6
  have hy4 := (blk_cell Z3.out 4).trans rfl
  have hyf := blk_frozen Z3.out 4
  have HB4 : Aside0 (Below w.heap.size w (w3.setCell ⟨bj, 4, none⟩ (.slice Av ops.length cv))) := ⟨HB3.out.setCell (by have := BJ.out; exact Nat.le_of_eq this) (.slice Av ops.length cv)⟩
  have H4 := asd (H.out.below HB4.out)
  have Z4 : Aside0 ((w3.setCell ⟨bj, 4, none⟩ (.slice Av ops.length cv)).heap[bj]? = some (.cells #[.int .i64 (k : Int), .int .i64 arr, .int .i64 wrk, .int .i64 0, .slice Av ops.length cv] 69 (0, 0))) := ⟨by
   have h1 := blk_set Z3.out 4 (.slice Av ops.length cv)
   simpa only [sB] using h1⟩
  have BJB : Aside0 (base ≤ bj) := ⟨by have h1 := H.out.lg; have h2 := blk_lt H.out.blk; have := BJ.out; omega⟩
  have A5 := asd (H4.out.toTabA.setPt HK.out (some bj) ⟨k, arr, wrk, 0, ops⟩ (.slice Av ops.length cv) (fun b hb => by
   obtain rfl := Option.some.inj hb
   refine ⟨BJB.out, JO.out, fun i hi _ q => ?_, Z4.out, ?_⟩
   ·have := H.out.lt bj ((T.S_iff g bj).2 (.inl (.inr (.inr ⟨i, hi, q⟩))))
    have := BJ.out; omega
   ·exact Kd.R_set (Kd.R_lower HV.out (by have := HB2.out.size; have := BJ.out; have := BJB.out; omega)) Z3.out (by decide) 4 (.slice Av ops.length cv)))
  have HOK5 := asd (H4.out.hok_cell (p := ⟨T.gs, k * 7 + 6, none⟩) (.inr (.inl ⟨by have := HK.out; omega, rfl⟩)) (ptrV (some bj)))
  have HC5 := asd ((Chg.of_below HB4.out (T.S g)).set_ (p := ⟨T.gs, k * 7 + 6, none⟩) (.inl (.inr (.inl ⟨by have := HK.out; omega, rfl⟩))) (ptrV (some bj)))
  have hp6 : (w3.setCell ⟨bj, 4, none⟩ (.slice Av ops.length cv)).cell? ⟨T.gs, k * 7 + 6, none⟩ = some (.pointer none) := by
   have := H4.out.toTabA.ptc HK.out
   rw [HPT.out] at this; exact this
  have hpf := H4.out.toTabA.frz (i := k * 7 + 6) (by have := HK.out; omega)
  have Z5 : Aside0 (((w3.setCell ⟨bj, 4, none⟩ (.slice Av ops.length cv)).setCell ⟨T.gs, k * 7 + 6, none⟩ (ptrV (some bj))).heap[bj]? = some (.cells #[.int .i64 (k : Int), .int .i64 arr, .int .i64 wrk, .int .i64 0, .slice Av ops.length cv] 69 (0, 0))) := ⟨by
   obtain ⟨_, rest, hb⟩ := H4.out.row (by have := HK.out; omega)
   exact blk_far Z4.out (p := ⟨T.gs, k * 7 + 6, none⟩) (blk_ne Z4.out hb (by decide)) _⟩
  clear Z2 Z3
  have PTB : Aside0 ((T.upd k (some bj) ⟨k, arr, wrk, 0, ops⟩ (.slice Av ops.length cv)).pt k = some bj) := ⟨by rw [upd_pt T HK.out, if_pos rfl]⟩
  have DU : Aside0 (∀ wx, TabA wx base g (T.upd k (some bj) ⟨k, arr, wrk, 0, ops⟩ (.slice Av ops.length cv)) → Calls Try.prog 83 #[.pointer (some ⟨T.gs, k * 7, none⟩), .bool T.hi] wx fun e w' => e = .returned (.int .i64 (dueT T.hi (T.tk k) ⟨k, arr, wrk, 0, ops⟩)) ∧ Below wx.heap.size wx w') := ⟨fun wx hx => by
   have h1 := tdue_calls hx k bj (by rw [upd_len]; exact HK.out) PTB.out T.hi
   have e1 : (T.upd k (some bj) ⟨k, arr, wrk, 0, ops⟩ (.slice Av ops.length cv)).jb k = ⟨k, arr, wrk, 0, ops⟩ := by unfold TD.upd; simp
   rw [upd_tk T HK.out, e1] at h1
   exact h1⟩
  have PC : Aside0 (∀ wx, HOK wx base T.gh T.H.A T.H.ca T.H.ats T.H.gp T.H.cp T.H.pls T.H.gd T.H.cd T.H.dus → _) := ⟨fun wx hx => put_calls hx (k : Int) (dueT T.hi (T.tk k) ⟨k, arr, wrk, 0, ops⟩) (by omega) (by have := H.out.pl; have := H.out.n6; have := HK.out; omega) (by
   rw [Int.toNat_natCast]
   exact (H.out.inn k (by have := H.out.n6; have := HK.out; omega)).2 (TD.js_none.2 HPT.out)) (by have := H.out.cnt; have := numJ_le T.js; omega)⟩
  go_wp2
  have e5 : (w3.setCell ⟨bj, 4, none⟩ (.slice Av ops.length cv)).setCell ⟨T.gs, k * 7 + 6, none⟩ (.pointer (some ⟨bj, 0, none⟩)) = (w3.setCell ⟨bj, 4, none⟩ (.slice Av ops.length cv)).setCell ⟨T.gs, k * 7 + 6, none⟩ (ptrV (some bj)) := rfl
  rw [e5]
  generalize (w3.setCell ⟨bj, 4, none⟩ (.slice Av ops.length cv)).setCell ⟨T.gs, k * 7 + 6, none⟩ (ptrV (some bj)) = w5 at A5 HOK5 HC5 Z5 ⊢
  clear hp6 hpf e5 hy4 hyf
  refine start_ (n := 13) (S := fun w' => w'.cell? ⟨g, 1, none⟩ = some (.pointer (some ⟨T.gh, 0, none⟩)) ∧ w'.cell? ⟨bj, 0, none⟩ = some (.int .i64 (k : Int)) ∧ w'.cell? ⟨g, 2, none⟩ = some (.bool T.hi)) (ds := [12]) #[false, false, false, false, false, false, false, false, false, false, false, false, false] (by kernel_rfl) rfl rfl ⟨(blk_cell A5.out.blk 1).trans rfl, (blk_cell Z5.out 0).trans rfl, (blk_cell A5.out.blk 2).trans rfl⟩ (fun hHeld => ?_); refine with_tabW tkp10_tab tkp10_bits (fun HT_ HW_ => ?_)
  have A6 := asd (A5.out.chg ((Chg.refl (fun _ => False) w5).drew) (fun _ _ q => q) (fun _ _ _ q => q))
  have Z6 := asd (blk_drew Z5.out)
  have HOK6 := asd (hok_chg HOK5.out ((Chg.refl (fun _ => False) w5).drew) (fun _ _ q => q))
  have HC6 := asd (HC5.out.drew)
  clear A5 Z5 HOK5 HC5 hHeld
  generalize w5.drew = w6 at A6 Z6 HOK6 HC6 ⊢
  have hHeld : w6.cell? ⟨g, 1, none⟩ = some (.pointer (some ⟨T.gh, 0, none⟩)) ∧ w6.cell? ⟨bj, 0, none⟩ = some (.int .i64 (k : Int)) ∧ w6.cell? ⟨g, 2, none⟩ = some (.bool T.hi) := ⟨(blk_cell A6.out.blk 1).trans rfl, (blk_cell Z6.out 0).trans rfl, (blk_cell A6.out.blk 2).trans rfl⟩
  refine pure_ (i := 0) (N := (some 44)) (v := ?_) (a' := ?_) #[true, false, false, false, false, false, false, false, false, false, false, false, false] rfl rfl (any_of HT_.out (by kernel_rfl)) (fun _ _ _ h => h) (Or.inl ⟨by rfl, ?_⟩) ?_ ?_
  rotate_left
  ·intro w'
   go_simp
   with_reducible rfl
  rotate_left
  ·simp only [Act.put, sB, i64_w, i32_w]
   rfl
  refine pure_ (i := 1) (N := (some 45)) (v := ?_) (a' := ?_) #[true, true, false, false, false, false, false, false, false, false, false, false, false] rfl rfl (any_of HT_.out (by kernel_rfl)) (fun _ _ _ h => h) (Or.inl ⟨by rfl, ?_⟩) ?_ ?_
  rotate_left
  ·intro w'
   go_simp
   with_reducible rfl
  rotate_left
  ·simp only [Act.put, sB, i64_w, i32_w]
   rfl
  refine pure_ (i := 2) (N := (some 46)) (v := ?_) (a' := ?_) #[true, true, true, false, false, false, false, false, false, false, false, false, false] rfl rfl (any_of HT_.out (by kernel_rfl)) (fun _ _ _ h => h) (Or.inl ⟨by rfl, ?_⟩) ?_ ?_
  rotate_left
  ·intro w'
   go_simp
   with_reducible rfl
  rotate_left
  ·simp only [Act.put, sB, i64_w, i32_w]
   rfl
  refine take_ (i := 3) (N := (some 47)) (v := ?_) (a' := ?_) #[true, true, true, true, false, false, false, false, false, false, false, false, false] rfl rfl (take_ofW HT_.out HW_.out (by kernel_rfl)) (fun _ _ _ h => h) (Or.inl ⟨by rfl, ?_⟩) hHeld ?_ ?_
  rotate_left
  ·rintro w' ⟨s0, s1, s2⟩
   go_simp
   with_reducible rfl
  rotate_left
  ·simp only [Act.put, sB, i64_w, i32_w]
   rfl
  refine pure_ (i := 4) (N := (some 48)) (v := ?_) (a' := ?_) #[true, true, true, true, true, false, false, false, false, false, false, false, false] rfl rfl (any_of HT_.out (by kernel_rfl)) (fun _ _ _ h => h) (Or.inl ⟨by rfl, ?_⟩) ?_ ?_
  rotate_left
  ·intro w'
   go_simp
   with_reducible rfl
  rotate_left
  ·simp only [Act.put, sB, i64_w, i32_w]
   rfl
  refine take_ (i := 5) (N := (some 49)) (v := ?_) (a' := ?_) #[true, true, true, true, true, true, false, false, false, false, false, false, false] rfl rfl (take_ofW HT_.out HW_.out (by kernel_rfl)) (fun _ _ _ h => h) (Or.inl ⟨by rfl, ?_⟩) hHeld ?_ ?_
  rotate_left
  ·rintro w' ⟨s0, s1, s2⟩
   go_simp
   with_reducible rfl
  rotate_left
  ·simp only [Act.put, sB, i64_w, i32_w]
   rfl
  refine pure_ (i := 6) (N := (some 50)) (v := ?_) (a' := ?_) #[true, true, true, true, true, true, true, false, false, false, false, false, false] rfl rfl (any_of HT_.out (by kernel_rfl)) (fun _ _ _ h => h) (Or.inl ⟨by rfl, ?_⟩) ?_ ?_
  rotate_left
  ·intro w'
   go_simp
   with_reducible rfl
  rotate_left
  ·simp only [Act.put, sB, i64_w, i32_w]
   rfl
  refine pure_ (i := 7) (N := (some 51)) (v := ?_) (a' := ?_) #[true, true, true, true, true, true, true, true, false, false, false, false, false] rfl rfl (any_of HT_.out (by kernel_rfl)) (fun _ _ _ h => h) (Or.inl ⟨by rfl, ?_⟩) ?_ ?_
  rotate_left
  ·intro w'
   go_simp
   with_reducible rfl
  rotate_left
  ·simp only [Act.put, sB, i64_w, i32_w]
   rfl
  refine pure_ (i := 8) (N := (some 52)) (v := ?_) (a' := ?_) #[true, true, true, true, true, true, true, true, true, false, false, false, false] rfl rfl (any_of HT_.out (by kernel_rfl)) (fun _ _ _ h => h) (Or.inl ⟨by rfl, ?_⟩) ?_ ?_
  rotate_left
  ·intro w'
   go_simp
   with_reducible rfl
  rotate_left
  ·simp only [Act.put, sB, i64_w, i32_w]
   rfl
  refine pure_ (i := 9) (N := (some 53)) (v := ?_) (a' := ?_) #[true, true, true, true, true, true, true, true, true, true, false, false, false] rfl rfl (any_of HT_.out (by kernel_rfl)) (fun _ _ _ h => h) (Or.inl ⟨by rfl, ?_⟩) ?_ ?_
  rotate_left
  ·intro w'
   go_simp
   with_reducible rfl
  rotate_left
  ·simp only [Act.put, sB, i64_w, i32_w]
   rfl
  refine take_ (i := 10) (N := (some 54)) (v := ?_) (a' := ?_) #[true, true, true, true, true, true, true, true, true, true, true, false, false] rfl rfl (take_ofW HT_.out HW_.out (by kernel_rfl)) (fun _ _ _ h => h) (Or.inl ⟨by rfl, ?_⟩) hHeld ?_ ?_
  rotate_left
  ·rintro w' ⟨s0, s1, s2⟩
   go_simp
   with_reducible rfl
  rotate_left
  ·simp only [Act.put, sB, i64_w, i32_w]
   rfl
  refine one_ (i := 11) (N := (some 55)) #[true, true, true, true, true, true, true, true, true, true, true, true, false] rfl rfl (one_of HT_.out (by kernel_rfl)) (by decide) (fun K hK => ?_)
  refine goes_ Try.func83 (by kernel_rfl) rfl #[.pointer (some ⟨T.gs, k * 7, none⟩), .bool T.hi] (by rfl) rfl rfl (by simp [Act.eval]) ?_
  refine (DU.out w6 A6.out).mono ?_
  rintro e w7 ⟨rfl, hb7⟩
  have A7 := asd (A6.out.chg (Chg.of_below hb7 (fun _ => False)) (fun _ _ q => q) (fun _ _ _ q => q))
  have Z7 := asd (blk_below Z6.out hb7)
  have HOK7 := asd (hok_chg HOK6.out (Chg.of_below hb7 (fun _ => False)) (fun _ _ q => q))
  have HC7 := asd (HC6.out.below hb7)
  clear hb7 A6 Z6 HOK6 HC6
  refine ⟨_, rfl, ?_⟩
  refine hK.out _ _ ⟨(blk_cell A7.out.blk 1).trans rfl, (blk_cell Z7.out 0).trans rfl, (blk_cell A7.out.blk 2).trans rfl⟩ (fun hHeld => ?_)
  clear hK K
  refine norm_ (a' := ?_) ?_ ?_
  rotate_left
  ·show Act.put _ (some 55) _ = _
   simp only [Act.put, sB, i64_w, i32_w]
   rfl
  refine last_ (i := 12) (N := (some 56)) #[true, true, true, true, true, true, true, true, true, true, true, true, true] rfl rfl (one_of HT_.out (by kernel_rfl)) (by decide) (fun K hK => ?_)
  refine goes_ Try.func30 (by kernel_rfl) rfl #[.pointer (some ⟨T.gh, 0, none⟩), .int .i64 (k : Int), .int .i64 (dueT T.hi (T.tk k) ⟨k, arr, wrk, 0, ops⟩)] (by rfl) rfl rfl (by simp [Act.eval]) ?_
  refine (PC.out w7 HOK7.out).mono ?_
  rintro e w8 ⟨rfl, ⟨A', ca', ats', pls', h8, hs8, hl8, ha8, hn8⟩, hc8⟩
  have FIN : Aside0 (TAfter w w8 base g T (putJ T k ⟨k, arr, wrk, 0, ops⟩) T.hi) := ⟨by
   have hk := HK.out
   have hk6 : k < 6 := by have := H.out.n6; omega
   rw [Int.toNat_natCast] at h8 hs8
   refine ⟨(T.upd k (some bj) ⟨k, arr, wrk, 0, ops⟩ (.slice Av ops.length cv)).putH ⟨A', ca', ats', T.H.gp, T.H.cp, pls', T.H.gd, T.H.cd, T.H.dus.set k (dueT T.hi (T.tk k) ⟨k, arr, wrk, 0, ops⟩)⟩ (fun i => if i = k then T.hi else T.dm i), ⟨(A7.out.heap_chg hc8 (fun q hq => hok_typed HOK7.out (fun a ha => own_of ha) q hq)).putH _ _, h8, hl8.trans H.out.pl, fun id hid => ?_, fun id j hj => ?_, ?_⟩, ⟨upd_len T k (some bj) ⟨k, arr, wrk, 0, ops⟩ (.slice Av ops.length cv), fun i => upd_tk T hk (some bj) ⟨k, arr, wrk, 0, ops⟩ (.slice Av ops.length cv) i, fun i => upd_js T hk (some bj) ⟨k, arr, wrk, 0, ops⟩ (.slice Av ops.length cv) i, rfl, fun i => by
     by_cases e : i = k
     ·exact .inr (if_pos e)
     ·exact .inl (if_neg e)⟩, ?_, fun q hq => ?_⟩
   ·have h3 := hs8 id (by rw [List.length_set, H.out.pl]; exact hid)
    rw [getD_set, H.out.pl] at h3
    show pls'.getD id 0 = -1 ↔ (T.upd k (some bj) ⟨k, arr, wrk, 0, ops⟩ (.slice Av ops.length cv)).js id = none
    rw [h3, upd_js T hk]
    by_cases e : id = k
    ·rw [if_pos e, if_pos ⟨e.symm, hk6⟩]; simp
    ·rw [if_neg e, if_neg (fun q => e q.1.symm)]; exact H.out.inn id hid
   ·have hj' : (T.upd k (some bj) ⟨k, arr, wrk, 0, ops⟩ (.slice Av ops.length cv)).js id = some j := hj
    rw [upd_js T hk] at hj'
    show (T.H.dus.set k (dueT T.hi (T.tk k) ⟨k, arr, wrk, 0, ops⟩)).getD id 0 = dueT (if id = k then T.hi else T.dm id) ((T.upd k (some bj) ⟨k, arr, wrk, 0, ops⟩ (.slice Av ops.length cv)).tk id) j
    rw [upd_tk T hk, getD_set]
    by_cases e : id = k
    ·rw [if_pos e] at hj'
     obtain rfl := Option.some.inj hj'
     rw [if_pos e, if_pos ⟨e.symm, by have := H.out.hp.li.len; have := H.out.pl; omega⟩, e]
    ·rw [if_neg e] at hj'
     rw [if_neg e, if_neg (fun q => e q.1.symm)]; exact H.out.due id j hj'
   ·show ats'.length = numJ (T.upd k (some bj) ⟨k, arr, wrk, 0, ops⟩ (.slice Av ops.length cv)).js
    have e1 : (T.upd k (some bj) ⟨k, arr, wrk, 0, ops⟩ (.slice Av ops.length cv)).js = fun i => if i = k then some ⟨k, arr, wrk, 0, ops⟩ else T.js i := funext fun i => upd_js T hk (some bj) ⟨k, arr, wrk, 0, ops⟩ (.slice Av ops.length cv) i
    have h3 := numJ_set T.js k hk6 (some ⟨k, arr, wrk, 0, ops⟩)
    have h4 : b2 (T.js k) = 0 := by rw [TD.js_none.2 HPT.out]; rfl
    have h5 : b2 (some (⟨k, arr, wrk, 0, ops⟩ : JB)) = 1 := rfl
    have h6 := H.out.cnt
    rw [e1]; omega
   ·exact HC7.out.then_ hc8 (fun q hq => .inl ((T.S_iff g q).2 (.inr hq)))
   ·rcases hq with hq | hq
    ·rcases ((T.upd k (some bj) ⟨k, arr, wrk, 0, ops⟩ (.slice Av ops.length cv)).putH ⟨A', ca', ats', T.H.gp, T.H.cp, pls', T.H.gd, T.H.cd, T.H.dus.set k (dueT T.hi (T.tk k) ⟨k, arr, wrk, 0, ops⟩)⟩ (fun i => if i = k then T.hi else T.dm i)).S_iff g q |>.1 hq with h3 | h3
     ·rcases TD.SA_upd T hk (some bj) ⟨k, arr, wrk, 0, ops⟩ (.slice Av ops.length cv) (q := q) h3 with h4 | h4
      ·exact .inl (.inl ((T.S_iff g q).2 (.inl h4)))
      ·exact .inr (by have := Option.some.inj h4; have := BJ.out; omega)
     ·rcases heapS_new hn8 (k := q) h3 with h4 | h4
      ·exact .inl (.inl ((T.S_iff g q).2 (.inr h4)))
      ·exact .inr (by have := HC7.out.size; omega)
    ·rcases TD.oS_upd T hk (some bj) ⟨k, arr, wrk, 0, ops⟩ (.slice Av ops.length cv) (q := q) hq with h4 | h4
     ·exact .inl (.inr h4)
     ·exact .inr (by have := Kd.R_base HV.out q h4.2; have := HB2.out.size; omega)⟩
  clear h8 hs8 hl8 ha8 hn8 hc8 A7 Z7 HOK7 HC7
  refine ⟨_, rfl, ?_⟩
  refine hK.out _ _ ?_
  clear hK K
  refine norm_ (a' := ?_) ?_ ?_
  rotate_left
  ·show Act.put _ (some 56) _ = _
   simp only [Act.put, sB, i64_w, i32_w]
   rfl
  refine done_ (done_of HT_.out (by kernel_rfl)) ?_
  try go_wp2
  go_wp2
  go_ret
  exact ⟨rfl, FIN.out⟩
end
end Go.Proofs.Ytjekfipaadbbbaa.Fn
namespace Go.Proofs.Ytjekfipaadbbbaa.Fn
open Go.RowKit Go.Proofs.YtjekfipaadbbbaaW.PrintWords Go.Proofs.YtjekfipaadbbbaaW.PrintLast Go.Proofs.YtjekfipaadbbbaaW.PrintMore
set_option linter.unusedVariables false
set_option linter.unusedSimpArgs false
def opV (x : S76) : Value := .agg #[.int .i64 x.f0, .int .i64 x.f1, .int .i64 x.f2]
set_option maxHeartbeats 8000000 in
set_option maxRecDepth 100000 in
theorem top_calls (k arr wrk dn : Int) (A : Option Addr) (c : Nat) (ops : List S76) (w : World) (hr : Kd.C k76 w A ops.length ops) (h0 : 0 ≤ dn) (hl : ops.length ≤ 1000) : Calls Try.prog 89 #[.agg #[.int .i64 k, .int .i64 arr, .int .i64 wrk, .int .i64 dn, .slice A ops.length c]] w fun e w' => e = .returned (opV (ops.getD dn.toNat z76)) ∧ Below w.heap.size w w' := by
 have hu := Try.underlying69
 have hu76 := Try.underlying76
 have Z := asd (heap_alloc_new w (.cells #[.int .i64 k, .int .i64 arr, .int .i64 wrk, .int .i64 dn, .slice A ops.length c] 69))
 have HB := asd (below_alloc (Below.refl w.heap.size w) (.cells #[.int .i64 k, .int .i64 arr, .int .i64 wrk, .int .i64 dn, .slice A ops.length c] 69))
 have e1 : (w.alloc (.cells #[.int .i64 k, .int .i64 arr, .int .i64 wrk, .int .i64 dn, .slice A ops.length c] 69)).heap.size = w.heap.size + 1 := by unfold World.alloc; exact Array.size_push ..
 have R2 := asd (heap_alloc_new (w.alloc (.cells #[.int .i64 k, .int .i64 arr, .int .i64 wrk, .int .i64 dn, .slice A ops.length c] 69)) (.cells #[.int .i64 0, .int .i64 0, .int .i64 0] 76))
 rw [e1] at R2
 have Z2 := asd (blk_alloc Z.out (.cells #[.int .i64 0, .int .i64 0, .int .i64 0] 76))
 have HB2 := asd (below_alloc HB.out (.cells #[.int .i64 0, .int .i64 0, .int .i64 0] 76))
 have hz3 := (blk_cell Z2.out 3).trans rfl
 have hz4 := (blk_cell Z2.out 4).trans rfl
 have r0 := blk_frozen R2.out 0
 have r1 := blk_frozen R2.out 1
 have r2 := blk_frozen R2.out 2
 have q0 := (blk_cell R2.out 0).trans rfl
 have q1 := (blk_cell R2.out 1).trans rfl
 have q2 := (blk_cell R2.out 2).trans rfl
 have HR2 := asd (Kd.C_below hr HB2.out)
 clear hr
 by_cases hd : dn < (ops.length : Int)
 ·have d0 : decide (dn < (ops.length : Int)) = true := decide_eq_true hd
  have p0 : (0 ≤ dn) = True := eq_true h0
  have p1 : (dn < (ops.length : Int)) = True := eq_true hd
  obtain ⟨ad, hae, y0, y1, y2⟩ := at_T76 HR2.out dn h0 hd
  subst hae
  have er : rd_T76 ops dn = ops.getD dn.toNat z76 := rfl
  rw [er] at y0 y1 y2
  generalize ops.getD dn.toNat z76 = x at y0 y1 y2 ⊢
  clear hd
  go_enter Try.func89, Try.ntmps89
  go_wp2
  have RR := heap_alloc_new (w.alloc (.cells #[.int .i64 k, .int .i64 arr, .int .i64 wrk, .int .i64 dn, .slice (some ad) ops.length c] 69)) (.cells #[.int .i64 x.f0, .int .i64 x.f1, .int .i64 x.f2] 76)
  rw [e1] at RR
  refine bodyPost_ret (results_row1 Try.results89 _ _ (w.heap.size + 1) 76 #[.int .i64 x.f0, .int .i64 x.f1, .int .i64 x.f2] (0, 0) _ rfl RR Try.underlying76 rfl (by kernel_rfl)) rfl ?_
  exact ⟨rfl, below_alloc HB.out _⟩
 ·have d0 : decide (dn < (ops.length : Int)) = false := decide_eq_false hd
  have er : ops.getD dn.toNat z76 = z76 := by rw [List.getD_eq_getElem?_getD, List.getElem?_eq_none (by omega)]; rfl
  rw [er]
  clear hd
  go_enter Try.func89, Try.ntmps89
  go_wp2
  have RR := heap_alloc_new (w.alloc (.cells #[.int .i64 k, .int .i64 arr, .int .i64 wrk, .int .i64 dn, .slice A ops.length c] 69)) (.cells #[.int .i64 0, .int .i64 0, .int .i64 0] 76)
  rw [e1] at RR
  refine bodyPost_ret (results_row1 Try.results89 _ _ (w.heap.size + 1) 76 #[.int .i64 0, .int .i64 0, .int .i64 0] (0, 0) _ rfl RR Try.underlying76 rfl (by kernel_rfl)) rfl ?_
  exact ⟨rfl, below_alloc HB.out _⟩
end Go.Proofs.Ytjekfipaadbbbaa.Fn
namespace Go.Proofs.Ytjekfipaadbbbaa.Fn
open Go.RowKit Go.Proofs.YtjekfipaadbbbaaW.PrintWords Go.Proofs.YtjekfipaadbbbaaW.PrintLast Go.Proofs.YtjekfipaadbbbaaW.PrintMore
set_option linter.unusedVariables false
set_option linter.unusedSimpArgs false
def tkr7T : Bool × List (List Nat × List Nat) := (true, [([], []), ([0], [0]), ([1], [1]), ([2], [2]), ([3], [3]), ([4], [4]), ([5], [5]), ([], []), ([], []), ([8], [8]), ([9], [9]), ([10], [10]), ([7, 11], [7, 11]), ([6, 12], [6, 12]), ([13, 12, 0, 1, 2, 3, 4, 5, 6, 7, 8, 9, 10, 11, 12, 13], [13])])
def tkr7B : List Nat := [0, 1, 3, 7, 15, 31, 63, 0, 0, 256, 768, 1792, 3968, 8191, 16383]
theorem tkr7_tab : rtab .any (opsOf Try.f46 7) = tkr7T := by kernel_rfl
theorem tkr7_bits : waitsOk tkr7T.2 tkr7B = true := by kernel_rfl
theorem TabOK.drew {w : World} {base g : Nat} {T : TD} (h : TabOK w base g T) : TabOK w.drew base g T := h.chg ((Chg.refl (fun _ => False) w).drew) (fun _ _ q => q) (fun _ _ _ q => q)
theorem TabOK.put1 {w : World} {base g : Nat} {T : TD} (h : TabOK w base g T) {p : Addr} (hp : ∀ q, T.S g q ∨ T.oS q → q ≠ p.block) (u : Value) : TabOK (w.setCell p u) base g T :=
 h.chgO ((Chg.refl (fun k => k = p.block) w).set_ (.inl rfl) u) (fun q hq => hp q (.inl hq)) (fun q hq => hp q (.inr hq))
theorem TabOK.put3 {w : World} {base g r : Nat} {T : TD} (h : TabOK w base g T) (hp : ∀ q, T.S g q ∨ T.oS q → q ≠ r) (u0 u1 u2 : Value) : TabOK (((w.setCell ⟨r, 0, none⟩ u0).setCell ⟨r, 1, none⟩ u1).setCell ⟨r, 2, none⟩ u2) base g T :=
 ((h.put1 (p := ⟨r, 0, none⟩) hp u0).put1 (p := ⟨r, 1, none⟩) hp u1).put1 (p := ⟨r, 2, none⟩) hp u2
def opJ (j : JB) : S76 := j.ops.getD j.dn.toNat z76
def outJ (hi : Bool) (x : S44) (j : JB) : Int := if j.dn + 1 = j.wrk then 1 else if budT hi x ≤ j.dn + 1 then (if hi = true ∨ x.f0 = false ∨ x.f5 = x.f4 then 2 else 3) else 0
def runJ (T : TD) (k : Nat) : Nat → Option JB := if outJ T.hi (T.tk k) (T.jb k) = 1 ∨ outJ T.hi (T.tk k) (T.jb k) = 2 then goneJ T k else putJ T k { T.jb k with dn := (T.jb k).dn + 1 }
section
variable {w w1 w2 : World} {base g : Nat} {T : TD}
set_option maxHeartbeats 16000000 in
set_option maxRecDepth 100000 in
theorem trun_nobody (h : TabOK w base g T) (k : Int) (hk : k < 0 ∨ T.js k.toNat = none) : Calls Try.prog 46 #[.pointer (some ⟨g, 0, none⟩), .int .i64 k] w fun e w' => e = .returned (.tuple #[.agg #[.int .i64 0, .int .i64 0, .int .i64 0], .int .i64 4]) ∧ Below w.heap.size w w' := by
 have hu := Try.underlying76
 have Z := asd (heap_alloc_new w (.cells #[.int .i64 0, .int .i64 0, .int .i64 0] 76))
 have HB := asd (below_alloc (Below.refl w.heap.size w) (.cells #[.int .i64 0, .int .i64 0, .int .i64 0] 76))
 have NC := asd (tbusy_none (h.below HB.out) k hk)
 clear h hk
 go_enter Try.func46, Try.ntmps46
 go_wp2_with (first | (go_at_call 87; refine NC.out.mono ?_; rintro e w1 ⟨rfl, rfl⟩))
 refine bodyPost_ret (results_row2 Try.results46 _ _ w.heap.size 76 #[.int .i64 0, .int .i64 0, .int .i64 0] (0, 0) _ (.int .i64 4) rfl rfl Z.out Try.underlying76 rfl (by kernel_rfl)) rfl ?_
 exact ⟨rfl, HB.out⟩
set_option maxHeartbeats 16000000 in
set_option maxRecDepth 100000 in
theorem trun_calls (h : TabOK w base g T) (k b : Nat) (hk : k < T.sl.length) (hb : T.pt k = some b) (hd : (T.jb k).dn < (T.jb k).wrk) : Calls Try.prog 46 #[.pointer (some ⟨g, 0, none⟩), .int .i64 (k : Int)] w fun e w' => e = .returned (.tuple #[opV (opJ (T.jb k)), .int .i64 (outJ T.hi (T.tk k) (T.jb k))]) ∧ TAfter w w' base g T (runJ T k) T.hi := by
 have hu := Try.underlying69
 have hu76 := Try.underlying76
 have hu131 := Try.underlying131
 have hu93 := Try.underlying93
 have hu45 := Try.underlying45
 have Z := asd (heap_alloc_new w (.cells #[.int .i64 0, .int .i64 0, .int .i64 0] 76))
 have HB := asd (below_alloc (Below.refl w.heap.size w) (.cells #[.int .i64 0, .int .i64 0, .int .i64 0] 76))
 have H1 := asd (h.below HB.out)
 have BC0 := asd (tbusy_some H1.out k b hk hb)
 have JOK := asd (h.job k b hk hb).2.1
 obtain ⟨A, c, hov⟩ := Kd.R_slice (h.job k b hk hb).2.2.2
 have BZ := (H1.out.job k b hk hb).2.2
 rw [hov] at BZ
 have OPS : Aside0 (Kd.C k76 (w.alloc (.cells #[.int .i64 0, .int .i64 0, .int .i64 0] 76)) A (T.jb k).ops.length (T.jb k).ops) := ⟨C_ofR BZ.2⟩
 have yp : (w.alloc (.cells #[.int .i64 0, .int .i64 0, .int .i64 0] 76)).cell? ⟨T.gs, k * 7 + 6, none⟩ = some (.pointer (some ⟨b, 0, none⟩)) := by have := H1.out.toTabA.ptc hk; rw [hb] at this; exact this
 have y0 := (blk_cell BZ.1 0).trans rfl
 have y1 := (blk_cell BZ.1 1).trans rfl
 have y2 := (blk_cell BZ.1 2).trans rfl
 have y3 := (blk_cell BZ.1 3).trans rfl
 have y4 := (blk_cell BZ.1 4).trans rfl
 have OC := asd (top_calls (T.jb k).tsk (T.jb k).arr (T.jb k).wrk (T.jb k).dn A c (T.jb k).ops _ OPS.out JOK.out.dn.1 (by have := JOK.out.ops; omega))
 have H := asd h
 have HK := asd hk
 have HPT := asd hb
 have DN := asd hd
 have OPE : opV (opJ (T.jb k)) = opV ((T.jb k).ops.getD (T.jb k).dn.toNat z76) := rfl
 rw [OPE]
 generalize (T.jb k).ops.getD (T.jb k).dn.toNat z76 = x at OC ⊢
 have OC2 : Aside0 (Calls Try.prog 89 _ _ fun e w' => e = .returned (.agg #[.int .i64 x.f0, .int .i64 x.f1, .int .i64 x.f2]) ∧ _) := ⟨OC.out⟩
 show Calls Try.prog 46 _ _ fun e w' => e = .returned (.tuple #[.agg #[.int .i64 x.f0, .int .i64 x.f1, .int .i64 x.f2], _]) ∧ _
 obtain ⟨d1, hd1⟩ : ∃ d1, (T.jb k).dn + 1 = d1 := ⟨_, rfl⟩
 have D1 := asd hd1
 have wd : wrap64 ((T.jb k).dn + 1) = d1 := by have := JOK.out.dn; have := JOK.out.wrk; unfold wrap64; omega
 obtain ⟨hi, hhi⟩ : ∃ hi, T.hi = hi := ⟨_, rfl⟩
 have HI := asd hhi
 clear h hk hb hd hov BZ OC hd1 hhi OPE
 go_enter Try.func46, Try.ntmps46
 go_wp2_with (first | (go_at_call 87; refine BC0.out.mono ?_; rintro e w1 ⟨rfl, rfl⟩))
 refine OC2.out.mono ?_
 rintro e w2 ⟨rfl, hb2⟩
 have HB2 := asd (below_step HB.out hb2)
 have Z3 := asd (blk_alloc (blk_below Z.out hb2) (.cells #[.int .i64 x.f0, .int .i64 x.f1, .int .i64 x.f2] 76))
 have Y3 := asd (heap_alloc_new w2 (.cells #[.int .i64 x.f0, .int .i64 x.f1, .int .i64 x.f2] 76))
 have HB3 := asd (below_alloc HB2.out (.cells #[.int .i64 x.f0, .int .i64 x.f1, .int .i64 x.f2] 76))
 have H3 := asd (H.out.below HB3.out)
 have BO : Aside0 (w.heap.size < w2.heap.size) := ⟨by have h1 := blk_lt (blk_below Z.out hb2); omega⟩
 clear hb2 yp y0 y1 y2 y3 y4 BC0 OC2 OPS
 have yp : (w2.alloc (.cells #[.int .i64 x.f0, .int .i64 x.f1, .int .i64 x.f2] 76)).cell? ⟨T.gs, k * 7 + 6, none⟩ = some (.pointer (some ⟨b, 0, none⟩)) := by have := H3.out.toTabA.ptc HK.out; rw [HPT.out] at this; exact this
 have y3 := (H3.out.toTabA.jbc HK.out HPT.out).2.2
 have BJ3 := (H3.out.job k b HK.out HPT.out).2.2.1
 have yf := blk_frozen BJ3 3
 have A4 := asd (H3.out.toTabA.setDn HK.out HPT.out d1 (by have := JOK.out.dn; have := DN.out; have := D1.out; omega))
 have OK4 := asd (H3.out.hok_cell (p := ⟨b, 3, none⟩) (.inr (.inr ⟨k, HK.out, HPT.out⟩)) (.int .i64 d1))
 have JS1 : Aside0 (∀ i, (T.upd k (some b) { T.jb k with dn := d1 } (T.ov k)).js i = putJ T k { T.jb k with dn := d1 } i) := ⟨fun i => upd_js T HK.out (some b) _ (T.ov k) i⟩
 have H4 : Aside0 (TabOK ((w2.alloc (.cells #[.int .i64 x.f0, .int .i64 x.f1, .int .i64 x.f2] 76)).setCell ⟨b, 3, none⟩ (.int .i64 d1)) base g (T.upd k (some b) { T.jb k with dn := d1 } (T.ov k))) := ⟨⟨A4.out, OK4.out, H.out.pl, fun id hid => by
   rw [JS1.out]
   unfold putJ
   by_cases e : id = k
   ·rw [if_pos e, e]
    have h1 := H.out.inn k (by omega)
    have h2 : T.js k = some (T.jb k) := by unfold TD.js; rw [HPT.out]; rfl
    rw [h2] at h1
    exact ⟨fun q => absurd (h1.1 q) (by simp), fun q => absurd q (by simp)⟩
   ·rw [if_neg e]; exact H.out.inn id hid, fun id j hj => by
   rw [JS1.out] at hj
   unfold putJ at hj
   rw [upd_tk T HK.out]
   by_cases e : id = k
   ·rw [if_pos e] at hj
    obtain rfl := Option.some.inj hj
    have h2 : T.js k = some (T.jb k) := by unfold TD.js; rw [HPT.out]; rfl
    rw [e]
    have h3 := H.out.due k (T.jb k) h2
    exact h3
   ·rw [if_neg e] at hj; exact H.out.due id j hj, by
   have e1 : (T.upd k (some b) { T.jb k with dn := d1 } (T.ov k)).js = fun i => if i = k then some { T.jb k with dn := d1 } else T.js i := funext JS1.out
   have h3 := numJ_set T.js k (by have := H.out.n6; have := HK.out; omega) (some { T.jb k with dn := d1 })
   have h4 : b2 (T.js k) = 1 := by unfold TD.js; rw [HPT.out]; rfl
   have h5 : b2 (some ({ T.jb k with dn := d1 } : JB)) = 1 := rfl
   have h6 := H.out.cnt
   show T.H.ats.length = _
   rw [e1]; omega⟩⟩
 have BNE : Aside0 (b < w.heap.size) := ⟨H.out.lt b ((T.S_iff g b).2 (.inl (.inr (.inr ⟨k, HK.out, HPT.out⟩))))⟩
 have Z4 := asd (blk_far Z3.out (p := ⟨b, 3, none⟩) (by have := BNE.out; exact fun e => by have e' : w.heap.size = b := e; omega) (.int .i64 d1))
 have Y4 := asd (blk_far Y3.out (p := ⟨b, 3, none⟩) (by have := BNE.out; have := BO.out; exact fun e => by have e' : w2.heap.size = b := e; omega) (.int .i64 d1))
 have HC4 := asd ((Chg.of_below HB3.out (T.S g)).set_ (p := ⟨b, 3, none⟩) (.inl ((T.S_iff g b).2 (.inl (.inr (.inr ⟨k, HK.out, HPT.out⟩))))) (.int .i64 d1))
 clear A4 OK4 BJ3
 -- what any world with this table says
 have PT1 : Aside0 ((T.upd k (some b) { T.jb k with dn := d1 } (T.ov k)).pt k = some b) := ⟨by rw [upd_pt T HK.out, if_pos rfl]⟩
 have JB1 : Aside0 ((T.upd k (some b) { T.jb k with dn := d1 } (T.ov k)).jb k = { T.jb k with dn := d1 }) := ⟨by unfold TD.upd; simp⟩
 have LN1 : Aside0 (k < (T.upd k (some b) { T.jb k with dn := d1 } (T.ov k)).sl.length) := ⟨by rw [upd_len]; exact HK.out⟩
 have FX : Aside0 ((∀ wx, TabOK wx base g (T.upd k (some b) { T.jb k with dn := d1 } (T.ov k)) → wx.cell? ⟨T.gs, k * 7 + 6, none⟩ = some (.pointer (some ⟨b, 0, none⟩))) ∧ (∀ wx, TabOK wx base g (T.upd k (some b) { T.jb k with dn := d1 } (T.ov k)) → wx.cell? ⟨b, 3, none⟩ = some (.int .i64 d1)) ∧ (∀ wx, TabOK wx base g (T.upd k (some b) { T.jb k with dn := d1 } (T.ov k)) → wx.cell? ⟨g, 2, none⟩ = some (.bool hi))) := ⟨fun wx hx => by
   have h1 := hx.toTabA.ptc LN1.out
   rw [PT1.out] at h1; exact h1, fun wx hx => by
   have h1 := (hx.toTabA.jbc LN1.out PT1.out).2.2
   rw [JB1.out] at h1
   exact h1, fun wx hx => by
   have h1 : wx.cell? ⟨g, 2, none⟩ = some (.bool T.hi) := (blk_cell hx.blk 2).trans rfl
   rw [HI.out] at h1; exact h1⟩
 have FW : Aside0 (∀ wx, TabOK wx base g (T.upd k (some b) { T.jb k with dn := d1 } (T.ov k)) → wx.cell? ⟨b, 2, none⟩ = some (.int .i64 (T.jb k).wrk)) := ⟨fun wx hx => by
   have h1 := (hx.toTabA.jbc LN1.out PT1.out).2.1
   rw [JB1.out] at h1; exact h1⟩
 have F0 : Aside0 (∀ wx, TabOK wx base g (T.upd k (some b) { T.jb k with dn := d1 } (T.ov k)) → wx.cell? ⟨T.gs, k * 7, none⟩ = some (.bool (T.tk k).f0)) := ⟨fun wx hx => by
   have h1 : wx.cell? ⟨T.gs, k * 7 + 0, none⟩ = some (.bool ((T.upd k (some b) { T.jb k with dn := d1 } (T.ov k)).tk k).f0) := (hx.toTabA.cell LN1.out (by omega : 0 < 7)).trans rfl
   rw [upd_tk T HK.out] at h1; exact h1⟩
 have F4 : Aside0 (∀ wx, TabOK wx base g (T.upd k (some b) { T.jb k with dn := d1 } (T.ov k)) → wx.cell? ⟨T.gs, k * 7 + 4, none⟩ = some (.int .i64 (T.tk k).f4)) := ⟨fun wx hx => by
   have h1 : wx.cell? ⟨T.gs, k * 7 + 4, none⟩ = some (.int .i64 ((T.upd k (some b) { T.jb k with dn := d1 } (T.ov k)).tk k).f4) := (hx.toTabA.cell LN1.out (by omega : 4 < 7)).trans rfl
   rw [upd_tk T HK.out] at h1; exact h1⟩
 have F5 : Aside0 (∀ wx, TabOK wx base g (T.upd k (some b) { T.jb k with dn := d1 } (T.ov k)) → wx.cell? ⟨T.gs, k * 7 + 5, none⟩ = some (.int .i64 (T.tk k).f5)) := ⟨fun wx hx => by
   have h1 : wx.cell? ⟨T.gs, k * 7 + 5, none⟩ = some (.int .i64 ((T.upd k (some b) { T.jb k with dn := d1 } (T.ov k)).tk k).f5) := (hx.toTabA.cell LN1.out (by omega : 5 < 7)).trans rfl
   rw [upd_tk T HK.out] at h1; exact h1⟩
 have BC : Aside0 (∀ wx, TabOK wx base g (T.upd k (some b) { T.jb k with dn := d1 } (T.ov k)) → Calls Try.prog 90 #[.pointer (some ⟨T.gs, k * 7, none⟩), .bool hi] wx fun e w' => e = .returned (.int .i64 (budT hi (T.tk k))) ∧ wx = w') := ⟨fun wx hx => by
   have h1 := tbudget_calls hx.toTabA k LN1.out hi
   rw [upd_tk T HK.out] at h1; exact h1⟩
 have GC : Aside0 (∀ wx, TabOK wx base g (T.upd k (some b) { T.jb k with dn := d1 } (T.ov k)) → Calls Try.prog 91 #[.pointer (some ⟨g, 0, none⟩), .int .i64 (k : Int)] wx fun e w' => e = .returned (.tuple #[]) ∧ TAfter wx w' base g (T.upd k (some b) { T.jb k with dn := d1 } (T.ov k)) (goneJ (T.upd k (some b) { T.jb k with dn := d1 } (T.ov k)) k) T.hi) := ⟨fun wx hx => tgone_calls hx k b LN1.out PT1.out⟩
 have T1S : Aside0 (∀ q, (T.upd k (some b) { T.jb k with dn := d1 } (T.ov k)).S g q → T.S g q) := ⟨fun q hq => by
   rcases ((T.upd k (some b) { T.jb k with dn := d1 } (T.ov k)).S_iff g q).1 hq with h1 | h1
   ·rcases TD.SA_upd T HK.out (some b) _ (T.ov k) h1 with h2 | h2
    ·exact (T.S_iff g q).2 (.inl h2)
    ·exact (T.S_iff g q).2 (.inl (.inr (.inr ⟨k, HK.out, HPT.out.trans h2⟩)))
   ·exact (T.S_iff g q).2 (.inr h1)⟩
 have TS : Aside0 (∀ q, (T.upd k (some b) { T.jb k with dn := d1 } (T.ov k)).S g q ∨ (T.upd k (some b) { T.jb k with dn := d1 } (T.ov k)).oS q → T.S g q ∨ T.oS q) := ⟨fun q hq => by
   rcases hq with hq | hq
   ·exact .inl (T1S.out q hq)
   ·rcases TD.oS_upd T HK.out (some b) _ (T.ov k) hq with h1 | h1
    ·exact .inr h1
    ·exact .inr ⟨k, HK.out, by rw [HPT.out]; simp, h1.2⟩⟩
 have TL : Aside0 (∀ q, (T.upd k (some b) { T.jb k with dn := d1 } (T.ov k)).S g q ∨ (T.upd k (some b) { T.jb k with dn := d1 } (T.ov k)).oS q → q < w.heap.size) := ⟨fun q hq => by
   rcases TS.out q hq with h1 | h1
   ·exact H.out.lt q h1
   ·exact H.out.toTabA.oS_lt q h1⟩
 have REL : Aside0 (TRel T (T.upd k (some b) { T.jb k with dn := d1 } (T.ov k)) (putJ T k { T.jb k with dn := d1 }) T.hi) := ⟨⟨upd_len T k (some b) _ (T.ov k), fun i => upd_tk T HK.out (some b) _ (T.ov k) i, fun i => JS1.out i, rfl, fun _ => .inl rfl⟩⟩
 clear JS1 PT1 JB1 LN1
 go_wp2
 clear yp y3 yf
 generalize (w2.alloc (.cells #[.int .i64 x.f0, .int .i64 x.f1, .int .i64 x.f2] 76)).setCell ⟨b, 3, none⟩ (.int .i64 d1) = w4 at H4 Z4 Y4 HC4 ⊢
 generalize w2.heap.size = bo at BO Y4 ⊢
 refine start_ (n := 15) (S := fun w' => w'.cell? ⟨T.gs, k * 7 + 6, none⟩ = some (.pointer (some ⟨b, 0, none⟩)) ∧ w'.cell? ⟨b, 3, none⟩ = some (.int .i64 d1) ∧ w'.cell? ⟨g, 2, none⟩ = some (.bool hi)) (ds := []) #[false, false, false, false, false, false, false, false, false, false, false, false, false, false, false] (by kernel_rfl) rfl rfl ⟨FX.out.1 w4 H4.out, FX.out.2.1 w4 H4.out, FX.out.2.2 w4 H4.out⟩ (fun hHeld => ?_); refine with_tabW tkr7_tab tkr7_bits (fun HT_ HW_ => ?_)
 have H5 := asd (H4.out.drew)
 have Z5 := asd (blk_drew Z4.out)
 have Y5 := asd (blk_drew Y4.out)
 have HC5 := asd (HC4.out.drew)
 clear H4 Z4 Y4 HC4 hHeld
 generalize w4.drew = w5 at H5 Z5 Y5 HC5 ⊢
 have hHeld : w5.cell? ⟨T.gs, k * 7 + 6, none⟩ = some (.pointer (some ⟨b, 0, none⟩)) ∧ w5.cell? ⟨b, 3, none⟩ = some (.int .i64 d1) ∧ w5.cell? ⟨g, 2, none⟩ = some (.bool hi) := ⟨FX.out.1 w5 H5.out, FX.out.2.1 w5 H5.out, FX.out.2.2 w5 H5.out⟩
 refine pure_ (i := 0) (N := (some 33)) (v := ?_) (a' := ?_) #[true, false, false, false, false, false, false, false, false, false, false, false, false, false, false] rfl rfl (any_of HT_.out (by kernel_rfl)) (fun _ _ _ h => h) (Or.inl ⟨by rfl, ?_⟩) ?_ ?_
 rotate_left
 ·intro w'
  go_simp
  with_reducible rfl
 rotate_left
 ·simp only [Act.put, sB, i64_w, i32_w]
  rfl
 refine pure_ (i := 1) (N := (some 34)) (v := ?_) (a' := ?_) #[true, true, false, false, false, false, false, false, false, false, false, false, false, false, false] rfl rfl (any_of HT_.out (by kernel_rfl)) (fun _ _ _ h => h) (Or.inl ⟨by rfl, ?_⟩) ?_ ?_
 rotate_left
 ·intro w'
  go_simp
  with_reducible rfl
 rotate_left
 ·simp only [Act.put, sB, i64_w, i32_w]
  rfl
 refine pure_ (i := 2) (N := (some 35)) (v := ?_) (a' := ?_) #[true, true, true, false, false, false, false, false, false, false, false, false, false, false, false] rfl rfl (any_of HT_.out (by kernel_rfl)) (fun _ _ _ h => h) (Or.inl ⟨by rfl, ?_⟩) ?_ ?_
 rotate_left
 ·intro w'
  go_simp
  with_reducible rfl
 rotate_left
 ·simp only [Act.put, sB, i64_w, i32_w]
  rfl
 refine take_ (i := 3) (N := (some 36)) (v := ?_) (a' := ?_) #[true, true, true, true, false, false, false, false, false, false, false, false, false, false, false] rfl rfl (take_ofW HT_.out HW_.out (by kernel_rfl)) (fun _ _ _ h => h) (Or.inl ⟨by rfl, ?_⟩) hHeld ?_ ?_
 rotate_left
 ·rintro w' ⟨s0, s1, s2⟩
  go_simp
  with_reducible rfl
 rotate_left
 ·simp only [Act.put, sB, i64_w, i32_w]
  rfl
 refine pure_ (i := 4) (N := (some 37)) (v := ?_) (a' := ?_) #[true, true, true, true, true, false, false, false, false, false, false, false, false, false, false] rfl rfl (any_of HT_.out (by kernel_rfl)) (fun _ _ _ h => h) (Or.inl ⟨by rfl, ?_⟩) ?_ ?_
 rotate_left
 ·intro w'
  go_simp
  with_reducible rfl
 rotate_left
 ·simp only [Act.put, sB, i64_w, i32_w]
  rfl
 refine pure_ (i := 5) (N := (some 38)) (v := ?_) (a' := ?_) #[true, true, true, true, true, true, false, false, false, false, false, false, false, false, false] rfl rfl (any_of HT_.out (by kernel_rfl)) (fun _ _ _ h => h) (Or.inl ⟨by rfl, ?_⟩) ?_ ?_
 rotate_left
 ·intro w'
  go_simp
  with_reducible rfl
 rotate_left
 ·simp only [Act.put, sB, i64_w, i32_w]
  rfl
 refine take_ (i := 6) (N := (some 39)) (v := ?_) (a' := ?_) #[true, true, true, true, true, true, true, false, false, false, false, false, false, false, false] rfl rfl (take_ofW HT_.out HW_.out (by kernel_rfl)) (fun _ _ _ h => h) (Or.inl ⟨by rfl, ?_⟩) hHeld ?_ ?_
 rotate_left
 ·rintro w' ⟨s0, s1, s2⟩
  go_simp
  with_reducible rfl
 rotate_left
 ·simp only [Act.put, sB, i64_w, i32_w]
  rfl
 refine pure_ (i := 7) (N := (some 40)) (v := ?_) (a' := ?_) #[true, true, true, true, true, true, true, true, false, false, false, false, false, false, false] rfl rfl (any_of HT_.out (by kernel_rfl)) (fun _ _ _ h => h) (Or.inl ⟨by rfl, ?_⟩) ?_ ?_
 rotate_left
 ·intro w'
  go_simp
  with_reducible rfl
 rotate_left
 ·simp only [Act.put, sB, i64_w, i32_w]
  rfl
 refine pure_ (i := 8) (N := (some 41)) (v := ?_) (a' := ?_) #[true, true, true, true, true, true, true, true, true, false, false, false, false, false, false] rfl rfl (any_of HT_.out (by kernel_rfl)) (fun _ _ _ h => h) (Or.inl ⟨by rfl, ?_⟩) ?_ ?_
 rotate_left
 ·intro w'
  go_simp
  with_reducible rfl
 rotate_left
 ·simp only [Act.put, sB, i64_w, i32_w]
  rfl
 refine pure_ (i := 9) (N := (some 42)) (v := ?_) (a' := ?_) #[true, true, true, true, true, true, true, true, true, true, false, false, false, false, false] rfl rfl (any_of HT_.out (by kernel_rfl)) (fun _ _ _ h => h) (Or.inl ⟨by rfl, ?_⟩) ?_ ?_
 rotate_left
 ·intro w'
  go_simp
  with_reducible rfl
 rotate_left
 ·simp only [Act.put, sB, i64_w, i32_w]
  rfl
 refine pure_ (i := 10) (N := (some 43)) (v := ?_) (a' := ?_) #[true, true, true, true, true, true, true, true, true, true, true, false, false, false, false] rfl rfl (any_of HT_.out (by kernel_rfl)) (fun _ _ _ h => h) (Or.inl ⟨by rfl, ?_⟩) ?_ ?_
 rotate_left
 ·intro w'
  go_simp
  with_reducible rfl
 rotate_left
 ·simp only [Act.put, sB, i64_w, i32_w]
  rfl
 refine take_ (i := 11) (N := (some 44)) (v := ?_) (a' := ?_) #[true, true, true, true, true, true, true, true, true, true, true, true, false, false, false] rfl rfl (take_ofW HT_.out HW_.out (by kernel_rfl)) (fun _ _ _ h => h) (Or.inl ⟨by rfl, ?_⟩) hHeld ?_ ?_
 rotate_left
 ·rintro w' ⟨s0, s1, s2⟩
  go_simp
  with_reducible rfl
 rotate_left
 ·simp only [Act.put, sB, i64_w, i32_w]
  rfl
 refine one_ (i := 12) (N := (some 45)) #[true, true, true, true, true, true, true, true, true, true, true, true, true, false, false] rfl rfl (one_of HT_.out (by kernel_rfl)) (by decide) (fun K hK => ?_)
 refine goes_ Try.func90 (by kernel_rfl) rfl #[.pointer (some ⟨T.gs, k * 7, none⟩), .bool hi] (by rfl) rfl rfl (by simp [Act.eval]) ?_
 refine (BC.out w5 H5.out).mono ?_
 rintro e w6 ⟨rfl, rfl⟩
 refine ⟨_, rfl, ?_⟩
 refine hK.out _ _ ⟨FX.out.1 w5 H5.out, FX.out.2.1 w5 H5.out, FX.out.2.2 w5 H5.out⟩ (fun hHeld => ?_)
 clear hK K
 refine norm_ (a' := ?_) ?_ ?_
 rotate_left
 ·show Act.put _ (some 45) _ = _
  simp only [Act.put, sB, i64_w, i32_w]
  rfl
 refine pure_ (i := 13) (N := (some 46)) (v := ?_) (a' := ?_) #[true, true, true, true, true, true, true, true, true, true, true, true, true, true, false] rfl rfl (any_of HT_.out (by kernel_rfl)) (fun _ _ _ h => h) (Or.inl ⟨by rfl, ?_⟩) ?_ ?_
 rotate_left
 ·intro w'
  go_simp
  with_reducible rfl
 rotate_left
 ·simp only [Act.put, sB, i64_w, i32_w]
  rfl
 refine pure_ (i := 14) (N := (some 9)) (v := ?_) (a' := ?_) #[true, true, true, true, true, true, true, true, true, true, true, true, true, true, true] rfl rfl (any_of HT_.out (by kernel_rfl)) (fun _ _ _ h => h) (Or.inl ⟨by rfl, ?_⟩) ?_ ?_
 rotate_left
 ·intro w'
  go_simp
  with_reducible rfl
 rotate_left
 ·simp only [Act.put, sB, i64_w, i32_w]
  rfl
 refine done_ (done_of HT_.out (by kernel_rfl)) ?_
 clear hHeld
 go_wp2
 have y6 := FX.out.1 w5 H5.out
 have y3 := FX.out.2.1 w5 H5.out
 have y2 := FW.out w5 H5.out
 by_cases hen : d1 = (T.jb k).wrk
 ·have e0 : (d1 == (T.jb k).wrk) = true := beq_iff_eq.2 hen
  have OUT : Aside0 (outJ T.hi (T.tk k) (T.jb k) = 1) := ⟨by unfold outJ; rw [D1.out, if_pos hen]⟩
  have RUN : Aside0 (runJ T k = goneJ T k) := ⟨by unfold runJ; rw [OUT.out, if_pos (.inl rfl)]⟩
  clear hen
  go_region
  clear y6 y3 y2
  have H7 := asd (H5.out.drew)
  have Z7 := asd (blk_drew Z5.out)
  have Y7 := asd (blk_drew Y5.out)
  have HC7 := asd (HC5.out.drew)
  clear H5 Z5 Y5 HC5
  generalize w5.drew = w7 at H7 Z7 Y7 HC7 ⊢
  go_wp2_with fail
  refine (GC.out w7 H7.out).mono ?_
  rintro e w8 ⟨rfl, T2, h8, hr8, hc8, hs8⟩
  have Z9 := asd (blk_chg Z7.out hc8 (fun q => absurd rfl (Nat.ne_of_lt (TL.out _ (.inl q)))))
  have Y9 := asd (blk_chg Y7.out hc8 (fun q => by have := TL.out _ (.inl q); have := BO.out; omega))
  have FIN : Aside0 (∀ u0 u1 u2, TAfter w (((w8.setCell ⟨w.heap.size, 0, none⟩ u0).setCell ⟨w.heap.size, 1, none⟩ u1).setCell ⟨w.heap.size, 2, none⟩ u2) base g T (goneJ T k) T.hi) := ⟨fun u0 u1 u2 => ⟨T2, h8.put3 (fun q hq e => by
    rcases hs8 q hq with h1 | h1
    ·exact absurd e (Nat.ne_of_lt (TL.out q h1))
    ·have := blk_lt Z7.out; omega) u0 u1 u2, ⟨hr8.len.trans REL.out.len, fun i => (hr8.tk i).trans (REL.out.tk i), fun i => by
     rw [hr8.js i]
     unfold goneJ
     rw [REL.out.js i]
     unfold putJ
     by_cases e : i = k
     ·rw [if_pos e, if_pos e]
     ·rw [if_neg e, if_neg e, if_neg e], hr8.hi.trans REL.out.hi, fun i => hr8.dm i⟩, (((HC7.out.then_ hc8 (fun q hq => .inl (T1S.out q hq))).set_ (p := ⟨w.heap.size, 0, none⟩) (.inr (Nat.le_refl _)) u0).set_ (p := ⟨w.heap.size, 1, none⟩) (.inr (Nat.le_refl _)) u1).set_ (p := ⟨w.heap.size, 2, none⟩) (.inr (Nat.le_refl _)) u2, fun q hq => by
    rcases hs8 q hq with h1 | h1
    ·exact .inl (TS.out q h1)
    ·exact .inr (Nat.le_trans HC7.out.size h1)⟩⟩
  clear h8 hr8 hc8 hs8
  have r0 := blk_frozen Z9.out 0
  have r1 := blk_frozen Z9.out 1
  have r2 := blk_frozen Z9.out 2
  have q0 := (blk_cell Z9.out 0).trans rfl
  have q1 := (blk_cell Z9.out 1).trans rfl
  have q2 := (blk_cell Z9.out 2).trans rfl
  have o0 := (blk_cell Y9.out 0).trans rfl
  have o1 := (blk_cell Y9.out 1).trans rfl
  have o2 := (blk_cell Y9.out 2).trans rfl
  go_wp2
  refine bodyPost_ret (results_row2 Try.results46 _ _ w.heap.size 76 #[.int .i64 x.f0, .int .i64 x.f1, .int .i64 x.f2] (0, 0) _ (.int .i64 1) rfl rfl (blk_put (blk_put (blk_put Z9.out 0 _ rfl) 1 _ rfl) 2 _ rfl) Try.underlying76 rfl (by kernel_rfl)) rfl ?_
  refine ⟨by rw [OUT.out], ?_⟩
  rw [RUN.out]
  exact FIN.out _ _ _
 ·have e0 : (d1 == (T.jb k).wrk) = false := beq_eq_false_iff_ne.2 hen
  have NEN := asd hen
  clear hen
  go_region
  clear y6 y3 y2
  have H6 := asd (H5.out.drew)
  have Z6 := asd (blk_drew Z5.out)
  have Y6 := asd (blk_drew Y5.out)
  have HC6 := asd (HC5.out.drew)
  clear H5 Z5 Y5 HC5
  generalize w5.drew = w6 at H6 Z6 Y6 HC6 ⊢
  obtain ⟨bud, hbud⟩ : ∃ bud, budT hi (T.tk k) = bud := ⟨_, rfl⟩
  have BUD : Aside0 (budT T.hi (T.tk k) = bud) := ⟨by rw [HI.out]; exact hbud⟩
  rw [hbud]
  clear hbud BC
  have g2 := FX.out.2.2 w6 H6.out
  have s0 := F0.out w6 H6.out
  have s4 := F4.out w6 H6.out
  have s5 := F5.out w6 H6.out
  by_cases hsp : bud ≤ d1
  ·have b0 : decide (bud ≤ d1) = true := decide_eq_true hsp
   have b1 : decide (d1 ≥ bud) = true := b0
   have SP := asd hsp
   clear hsp
   cases hi with
   | true =>
    have OUT : Aside0 (outJ T.hi (T.tk k) (T.jb k) = 2) := ⟨by unfold outJ; rw [D1.out, if_neg NEN.out, BUD.out, if_pos SP.out, if_pos (.inl HI.out)]⟩
    have RUN : Aside0 (runJ T k = goneJ T k) := ⟨by unfold runJ; rw [OUT.out, if_pos (.inr rfl)]⟩
    go_wp2
    try rw [b0]
    go_big_region
    clear g2 s0 s4 s5
    have H7 := asd (H6.out.drew)
    have Z7 := asd (blk_drew Z6.out)
    have Y7 := asd (blk_drew Y6.out)
    have HC7 := asd (HC6.out.drew)
    clear H6 Z6 Y6 HC6
    generalize w6.drew = w7 at H7 Z7 Y7 HC7 ⊢
    go_wp2_with fail
    refine (GC.out w7 H7.out).mono ?_
    rintro e w8 ⟨rfl, T2, h8, hr8, hc8, hs8⟩
    have Z9 := asd (blk_chg Z7.out hc8 (fun q => absurd rfl (Nat.ne_of_lt (TL.out _ (.inl q)))))
    have Y9 := asd (blk_chg Y7.out hc8 (fun q => by have := TL.out _ (.inl q); have := BO.out; omega))
    have FIN : Aside0 (∀ u0 u1 u2, TAfter w (((w8.setCell ⟨w.heap.size, 0, none⟩ u0).setCell ⟨w.heap.size, 1, none⟩ u1).setCell ⟨w.heap.size, 2, none⟩ u2) base g T (goneJ T k) T.hi) := ⟨fun u0 u1 u2 => ⟨T2, h8.put3 (fun q hq e => by
      rcases hs8 q hq with h1 | h1
      ·exact absurd e (Nat.ne_of_lt (TL.out q h1))
      ·have := blk_lt Z7.out; omega) u0 u1 u2, ⟨hr8.len.trans REL.out.len, fun i => (hr8.tk i).trans (REL.out.tk i), fun i => by
       rw [hr8.js i]
       unfold goneJ
       rw [REL.out.js i]
       unfold putJ
       by_cases e : i = k
       ·rw [if_pos e, if_pos e]
       ·rw [if_neg e, if_neg e, if_neg e], hr8.hi.trans REL.out.hi, fun i => hr8.dm i⟩, (((HC7.out.then_ hc8 (fun q hq => .inl (T1S.out q hq))).set_ (p := ⟨w.heap.size, 0, none⟩) (.inr (Nat.le_refl _)) u0).set_ (p := ⟨w.heap.size, 1, none⟩) (.inr (Nat.le_refl _)) u1).set_ (p := ⟨w.heap.size, 2, none⟩) (.inr (Nat.le_refl _)) u2, fun q hq => by
      rcases hs8 q hq with h1 | h1
      ·exact .inl (TS.out q h1)
      ·exact .inr (Nat.le_trans HC7.out.size h1)⟩⟩
    clear h8 hr8 hc8 hs8
    have r0 := blk_frozen Z9.out 0
    have r1 := blk_frozen Z9.out 1
    have r2 := blk_frozen Z9.out 2
    have q0 := (blk_cell Z9.out 0).trans rfl
    have q1 := (blk_cell Z9.out 1).trans rfl
    have q2 := (blk_cell Z9.out 2).trans rfl
    have o0 := (blk_cell Y9.out 0).trans rfl
    have o1 := (blk_cell Y9.out 1).trans rfl
    have o2 := (blk_cell Y9.out 2).trans rfl
    go_wp2
    refine bodyPost_ret (results_row2 Try.results46 _ _ w.heap.size 76 #[.int .i64 x.f0, .int .i64 x.f1, .int .i64 x.f2] (0, 0) _ (.int .i64 2) rfl rfl (blk_put (blk_put (blk_put Z9.out 0 _ rfl) 1 _ rfl) 2 _ rfl) Try.underlying76 rfl (by kernel_rfl)) rfl ?_
    refine ⟨by rw [OUT.out], ?_⟩
    rw [RUN.out]
    exact FIN.out _ _ _
   | false =>
    cases hf : (T.tk k).f0 with
    | false =>
     rw [hf] at s0
     have OUT : Aside0 (outJ T.hi (T.tk k) (T.jb k) = 2) := ⟨by unfold outJ; rw [D1.out, if_neg NEN.out, BUD.out, if_pos SP.out, if_pos (.inr (.inl hf))]⟩
     have RUN : Aside0 (runJ T k = goneJ T k) := ⟨by unfold runJ; rw [OUT.out, if_pos (.inr rfl)]⟩
     clear hf
     go_wp2
     try rw [b0]
     go_big_region
     clear g2 s0 s4 s5
     have H7 := asd (H6.out.drew)
     have Z7 := asd (blk_drew Z6.out)
     have Y7 := asd (blk_drew Y6.out)
     have HC7 := asd (HC6.out.drew)
     clear H6 Z6 Y6 HC6
     generalize w6.drew = w7 at H7 Z7 Y7 HC7 ⊢
     go_wp2_with fail
     refine (GC.out w7 H7.out).mono ?_
     rintro e w8 ⟨rfl, T2, h8, hr8, hc8, hs8⟩
     have Z9 := asd (blk_chg Z7.out hc8 (fun q => absurd rfl (Nat.ne_of_lt (TL.out _ (.inl q)))))
     have Y9 := asd (blk_chg Y7.out hc8 (fun q => by have := TL.out _ (.inl q); have := BO.out; omega))
     have FIN : Aside0 (∀ u0 u1 u2, TAfter w (((w8.setCell ⟨w.heap.size, 0, none⟩ u0).setCell ⟨w.heap.size, 1, none⟩ u1).setCell ⟨w.heap.size, 2, none⟩ u2) base g T (goneJ T k) T.hi) := ⟨fun u0 u1 u2 => ⟨T2, h8.put3 (fun q hq e => by
       rcases hs8 q hq with h1 | h1
       ·exact absurd e (Nat.ne_of_lt (TL.out q h1))
       ·have := blk_lt Z7.out; omega) u0 u1 u2, ⟨hr8.len.trans REL.out.len, fun i => (hr8.tk i).trans (REL.out.tk i), fun i => by
        rw [hr8.js i]
        unfold goneJ
        rw [REL.out.js i]
        unfold putJ
        by_cases e : i = k
        ·rw [if_pos e, if_pos e]
        ·rw [if_neg e, if_neg e, if_neg e], hr8.hi.trans REL.out.hi, fun i => hr8.dm i⟩, (((HC7.out.then_ hc8 (fun q hq => .inl (T1S.out q hq))).set_ (p := ⟨w.heap.size, 0, none⟩) (.inr (Nat.le_refl _)) u0).set_ (p := ⟨w.heap.size, 1, none⟩) (.inr (Nat.le_refl _)) u1).set_ (p := ⟨w.heap.size, 2, none⟩) (.inr (Nat.le_refl _)) u2, fun q hq => by
       rcases hs8 q hq with h1 | h1
       ·exact .inl (TS.out q h1)
       ·exact .inr (Nat.le_trans HC7.out.size h1)⟩⟩
     clear h8 hr8 hc8 hs8
     have r0 := blk_frozen Z9.out 0
     have r1 := blk_frozen Z9.out 1
     have r2 := blk_frozen Z9.out 2
     have q0 := (blk_cell Z9.out 0).trans rfl
     have q1 := (blk_cell Z9.out 1).trans rfl
     have q2 := (blk_cell Z9.out 2).trans rfl
     have o0 := (blk_cell Y9.out 0).trans rfl
     have o1 := (blk_cell Y9.out 1).trans rfl
     have o2 := (blk_cell Y9.out 2).trans rfl
     go_wp2
     refine bodyPost_ret (results_row2 Try.results46 _ _ w.heap.size 76 #[.int .i64 x.f0, .int .i64 x.f1, .int .i64 x.f2] (0, 0) _ (.int .i64 2) rfl rfl (blk_put (blk_put (blk_put Z9.out 0 _ rfl) 1 _ rfl) 2 _ rfl) Try.underlying76 rfl (by kernel_rfl)) rfl ?_
     refine ⟨by rw [OUT.out], ?_⟩
     rw [RUN.out]
     exact FIN.out _ _ _
    | true =>
     rw [hf] at s0
     by_cases htl : (T.tk k).f5 = (T.tk k).f4
     ·have tl : ((T.tk k).f5 == (T.tk k).f4) = true := beq_iff_eq.2 htl
      have OUT : Aside0 (outJ T.hi (T.tk k) (T.jb k) = 2) := ⟨by unfold outJ; rw [D1.out, if_neg NEN.out, BUD.out, if_pos SP.out, if_pos (.inr (.inr htl))]⟩
      have RUN : Aside0 (runJ T k = goneJ T k) := ⟨by unfold runJ; rw [OUT.out, if_pos (.inr rfl)]⟩
      clear hf htl
      go_wp2
      try rw [b0]
      go_big_region
      clear g2 s0 s4 s5
      have H7 := asd (H6.out.drew)
      have Z7 := asd (blk_drew Z6.out)
      have Y7 := asd (blk_drew Y6.out)
      have HC7 := asd (HC6.out.drew)
      clear H6 Z6 Y6 HC6
      generalize w6.drew = w7 at H7 Z7 Y7 HC7 ⊢
      go_wp2_with fail
      refine (GC.out w7 H7.out).mono ?_
      rintro e w8 ⟨rfl, T2, h8, hr8, hc8, hs8⟩
      have Z9 := asd (blk_chg Z7.out hc8 (fun q => absurd rfl (Nat.ne_of_lt (TL.out _ (.inl q)))))
      have Y9 := asd (blk_chg Y7.out hc8 (fun q => by have := TL.out _ (.inl q); have := BO.out; omega))
      have FIN : Aside0 (∀ u0 u1 u2, TAfter w (((w8.setCell ⟨w.heap.size, 0, none⟩ u0).setCell ⟨w.heap.size, 1, none⟩ u1).setCell ⟨w.heap.size, 2, none⟩ u2) base g T (goneJ T k) T.hi) := ⟨fun u0 u1 u2 => ⟨T2, h8.put3 (fun q hq e => by
        rcases hs8 q hq with h1 | h1
        ·exact absurd e (Nat.ne_of_lt (TL.out q h1))
        ·have := blk_lt Z7.out; omega) u0 u1 u2, ⟨hr8.len.trans REL.out.len, fun i => (hr8.tk i).trans (REL.out.tk i), fun i => by
         rw [hr8.js i]
         unfold goneJ
         rw [REL.out.js i]
         unfold putJ
         by_cases e : i = k
         ·rw [if_pos e, if_pos e]
         ·rw [if_neg e, if_neg e, if_neg e], hr8.hi.trans REL.out.hi, fun i => hr8.dm i⟩, (((HC7.out.then_ hc8 (fun q hq => .inl (T1S.out q hq))).set_ (p := ⟨w.heap.size, 0, none⟩) (.inr (Nat.le_refl _)) u0).set_ (p := ⟨w.heap.size, 1, none⟩) (.inr (Nat.le_refl _)) u1).set_ (p := ⟨w.heap.size, 2, none⟩) (.inr (Nat.le_refl _)) u2, fun q hq => by
        rcases hs8 q hq with h1 | h1
        ·exact .inl (TS.out q h1)
        ·exact .inr (Nat.le_trans HC7.out.size h1)⟩⟩
      clear h8 hr8 hc8 hs8
      have r0 := blk_frozen Z9.out 0
      have r1 := blk_frozen Z9.out 1
      have r2 := blk_frozen Z9.out 2
      have q0 := (blk_cell Z9.out 0).trans rfl
      have q1 := (blk_cell Z9.out 1).trans rfl
      have q2 := (blk_cell Z9.out 2).trans rfl
      have o0 := (blk_cell Y9.out 0).trans rfl
      have o1 := (blk_cell Y9.out 1).trans rfl
      have o2 := (blk_cell Y9.out 2).trans rfl
      go_wp2
      refine bodyPost_ret (results_row2 Try.results46 _ _ w.heap.size 76 #[.int .i64 x.f0, .int .i64 x.f1, .int .i64 x.f2] (0, 0) _ (.int .i64 2) rfl rfl (blk_put (blk_put (blk_put Z9.out 0 _ rfl) 1 _ rfl) 2 _ rfl) Try.underlying76 rfl (by kernel_rfl)) rfl ?_
      refine ⟨by rw [OUT.out], ?_⟩
      rw [RUN.out]
      exact FIN.out _ _ _
     ·have tl : ((T.tk k).f5 == (T.tk k).f4) = false := beq_eq_false_iff_ne.2 htl
      have OUT : Aside0 (outJ T.hi (T.tk k) (T.jb k) = 3) := ⟨by
       unfold outJ
       rw [D1.out, if_neg NEN.out, BUD.out, if_pos SP.out, if_neg (fun q => by
        rcases q with q | q | q
        ·rw [HI.out] at q; cases q
        ·rw [hf] at q; cases q
        ·exact htl q)]⟩
      have RUN : Aside0 (runJ T k = putJ T k { T.jb k with dn := d1 }) := ⟨by unfold runJ; rw [OUT.out, if_neg (by simp), D1.out]⟩
      clear hf htl
      go_wp2
      try rw [b0]
      go_big_region
      clear g2 s0 s4 s5
      have H7 := asd (H6.out.drew)
      have Z7 := asd (blk_drew Z6.out)
      have Y7 := asd (blk_drew Y6.out)
      have HC7 := asd (HC6.out.drew)
      clear H6 Z6 Y6 HC6
      generalize w6.drew = w7 at H7 Z7 Y7 HC7 ⊢
      have FIN : Aside0 (∀ u0 u1 u2, TAfter w (((w7.setCell ⟨w.heap.size, 0, none⟩ u0).setCell ⟨w.heap.size, 1, none⟩ u1).setCell ⟨w.heap.size, 2, none⟩ u2) base g T (putJ T k { T.jb k with dn := d1 }) T.hi) := ⟨fun u0 u1 u2 => ⟨(T.upd k (some b) { T.jb k with dn := d1 } (T.ov k)), H7.out.put3 (fun q hq => Nat.ne_of_lt (TL.out q hq)) u0 u1 u2, REL.out, ((HC7.out.set_ (p := ⟨w.heap.size, 0, none⟩) (.inr (Nat.le_refl _)) u0).set_ (p := ⟨w.heap.size, 1, none⟩) (.inr (Nat.le_refl _)) u1).set_ (p := ⟨w.heap.size, 2, none⟩) (.inr (Nat.le_refl _)) u2, fun q hq => .inl (TS.out q hq)⟩⟩
      have Z9 := Z7
      have r0 := blk_frozen Z9.out 0
      have r1 := blk_frozen Z9.out 1
      have r2 := blk_frozen Z9.out 2
      have q0 := (blk_cell Z9.out 0).trans rfl
      have q1 := (blk_cell Z9.out 1).trans rfl
      have q2 := (blk_cell Z9.out 2).trans rfl
      have o0 := (blk_cell Y7.out 0).trans rfl
      have o1 := (blk_cell Y7.out 1).trans rfl
      have o2 := (blk_cell Y7.out 2).trans rfl
      go_wp2
      refine bodyPost_ret (results_row2 Try.results46 _ _ w.heap.size 76 #[.int .i64 x.f0, .int .i64 x.f1, .int .i64 x.f2] (0, 0) _ (.int .i64 3) rfl rfl (blk_put (blk_put (blk_put Z9.out 0 _ rfl) 1 _ rfl) 2 _ rfl) Try.underlying76 rfl (by kernel_rfl)) rfl ?_
      refine ⟨by rw [OUT.out], ?_⟩
      rw [RUN.out]
      exact FIN.out _ _ _
  ·have b0 : decide (bud ≤ d1) = false := decide_eq_false hsp
   have b1 : decide (d1 ≥ bud) = false := b0
   have OUT : Aside0 (outJ T.hi (T.tk k) (T.jb k) = 0) := ⟨by unfold outJ; rw [D1.out, if_neg NEN.out, BUD.out, if_neg hsp]⟩
   have RUN : Aside0 (runJ T k = putJ T k { T.jb k with dn := d1 }) := ⟨by unfold runJ; rw [OUT.out, if_neg (by simp), D1.out]⟩
   clear hsp
   go_wp2
   try rw [b0]
   go_big_region
   clear g2 s0 s4 s5
   have H7 := asd (H6.out.drew)
   have Z7 := asd (blk_drew Z6.out)
   have Y7 := asd (blk_drew Y6.out)
   have HC7 := asd (HC6.out.drew)
   clear H6 Z6 Y6 HC6
   generalize w6.drew = w7 at H7 Z7 Y7 HC7 ⊢
   have FIN : Aside0 (∀ u0 u1 u2, TAfter w (((w7.setCell ⟨w.heap.size, 0, none⟩ u0).setCell ⟨w.heap.size, 1, none⟩ u1).setCell ⟨w.heap.size, 2, none⟩ u2) base g T (putJ T k { T.jb k with dn := d1 }) T.hi) := ⟨fun u0 u1 u2 => ⟨(T.upd k (some b) { T.jb k with dn := d1 } (T.ov k)), H7.out.put3 (fun q hq => Nat.ne_of_lt (TL.out q hq)) u0 u1 u2, REL.out, ((HC7.out.set_ (p := ⟨w.heap.size, 0, none⟩) (.inr (Nat.le_refl _)) u0).set_ (p := ⟨w.heap.size, 1, none⟩) (.inr (Nat.le_refl _)) u1).set_ (p := ⟨w.heap.size, 2, none⟩) (.inr (Nat.le_refl _)) u2, fun q hq => .inl (TS.out q hq)⟩⟩
   have Z9 := Z7
   have r0 := blk_frozen Z9.out 0
   have r1 := blk_frozen Z9.out 1
   have r2 := blk_frozen Z9.out 2
   have q0 := (blk_cell Z9.out 0).trans rfl
   have q1 := (blk_cell Z9.out 1).trans rfl
   have q2 := (blk_cell Z9.out 2).trans rfl
   have o0 := (blk_cell Y7.out 0).trans rfl
   have o1 := (blk_cell Y7.out 1).trans rfl
   have o2 := (blk_cell Y7.out 2).trans rfl
   go_wp2
   refine bodyPost_ret (results_row2 Try.results46 _ _ w.heap.size 76 #[.int .i64 x.f0, .int .i64 x.f1, .int .i64 x.f2] (0, 0) _ (.int .i64 0) rfl rfl (blk_put (blk_put (blk_put Z9.out 0 _ rfl) 1 _ rfl) 2 _ rfl) Try.underlying76 rfl (by kernel_rfl)) rfl ?_
   refine ⟨by rw [OUT.out], ?_⟩
   rw [RUN.out]
   exact FIN.out _ _ _
end
end Go.Proofs.Ytjekfipaadbbbaa.Fn
namespace Go.Proofs.Ytjekfipaadbbbaa.Fn
open Go.RowKit Go.Proofs.YtjekfipaadbbbaaW.PrintWords Go.Proofs.YtjekfipaadbbbaaW.PrintLast Go.Proofs.YtjekfipaadbbbaaW.PrintMore
set_option linter.unusedVariables false
set_option linter.unusedSimpArgs false
def pickP (T : TD) (p : Nat → JB → Bool) (i : Nat) : Bool := match T.js i with | some j => p i j | none => false
def whoP (T : TD) (p : Nat → JB → Bool) : Nat → List Int
 | 0 => []
 | i + 1 => if pickP T p i = true then whoP T p i ++ [(i : Int)] else whoP T p i
def goneP (T : TD) (p : Nat → JB → Bool) (i : Nat) : Option JB := match T.js i with | some j => if p i j = true then none else some j | none => none
theorem whoP_no (T : TD) (p : Nat → JB → Bool) (i : Nat) (h : pickP T p i = false) : whoP T p (i + 1) = whoP T p i := by
 show (if pickP T p i = true then _ else _) = _; rw [h]; rfl
theorem whoP_yes (T : TD) (p : Nat → JB → Bool) (i : Nat) (h : pickP T p i = true) : whoP T p (i + 1) = whoP T p i ++ [(i : Int)] := by
 show (if pickP T p i = true then _ else _) = _; rw [h]; rfl
theorem whoP_len (T : TD) (p : Nat → JB → Bool) : ∀ i, (whoP T p i).length ≤ i := by
 intro i
 induction i with
 | zero => exact Nat.le_refl _
 | succ i ih =>
  cases h : pickP T p i with
  | false => rw [whoP_no T p i h]; omega
  | true => rw [whoP_yes T p i h, List.length_append]; simp; omega
theorem goneStep (T : TD) (p : Nat → JB → Bool) (i m : Nat) (h : goneP T p i = T.js i) : (if m < i then goneP T p m else T.js m) = (if m < i + 1 then goneP T p m else T.js m) := by
 by_cases e : m < i
 ·rw [if_pos e, if_pos (by omega)]
 ·rw [if_neg e]
  by_cases e2 : m = i
  ·subst e2; rw [if_pos (by omega), h]
  ·rw [if_neg (by omega)]
theorem TRel.step {T T' : TD} {f f' : Nat → Option JB} {hi : Bool} (h : TRel T T' f hi) (e : ∀ m, f m = f' m) : TRel T T' f' hi := ⟨h.len, h.tk, fun i => (h.js i).trans (e i), h.hi, h.dm⟩
section
variable {w w1 w2 : World} {base g : Nat} {T : TD}
set_option maxHeartbeats 8000000 in
set_option maxRecDepth 100000 in
theorem rise1_calls (h : TabA w base g T) (k : Nat) (hk : k < T.sl.length) : Calls Try.prog 86 #[.pointer (some ⟨T.gs, k * 7, none⟩)] w fun e w' => e = .returned (.bool (!(T.tk k).f0)) ∧ Below w.heap.size w w' := by
 have hx0 : w.cell? ⟨T.gs, k * 7, none⟩ = some (.bool (T.tk k).f0) := by
  have h1 : w.cell? ⟨T.gs, k * 7 + 0, none⟩ = some (.bool (T.tk k).f0) := (h.cell hk (by omega : 0 < 7)).trans rfl
  exact h1
 have hu := Try.underlying131
 have hu2 := Try.underlying45
 clear h hk
 go_enter Try.func86, Try.ntmps86
 go_wp2
 go_ret
 exact ⟨rfl, Below.refl _ _⟩
set_option maxHeartbeats 8000000 in
set_option maxRecDepth 100000 in
theorem clear1_calls (v : Value) : Calls Try.prog 100 #[v] w fun e w' => e = .returned (.bool true) ∧ Below w.heap.size w w' := by
 go_enter Try.func100, Try.ntmps100
 go_wp2
 go_ret
 exact ⟨rfl, Below.refl _ _⟩
set_option maxHeartbeats 8000000 in
set_option maxRecDepth 100000 in
theorem teachRise (h : TabOK w base g T) : Calls Try.prog 85 #[.pointer (some ⟨g, 0, none⟩), .func (.func 86) #[] #[]] w fun e w' => (∃ A' c', e = .returned (.slice A' (whoP T (fun i _ => !(T.tk i).f0) T.sl.length).length c') ∧ (Kd.int .i64).R 3 w' w.heap.size (fun _ => True) (.slice A' (whoP T (fun i _ => !(T.tk i).f0) T.sl.length).length c') (whoP T (fun i _ => !(T.tk i).f0) T.sl.length)) ∧ TAfter0 w w' base g T (goneP T (fun i _ => !(T.tk i).f0)) T.hi := by
 have hu := Try.underlying93
 have H := asd h
 have hx0 := (blk_cell h.blk 0).trans rfl
 have N6 := asd h.n6
 have SLT : Aside0 (∀ q, T.S g q → q < w.heap.size) := ⟨h.lt⟩
 generalize hn : T.sl.length = n at hx0 N6 ⊢
 have HN := asd hn
 have n6 : (n : Int) ≤ 6 := by have := N6.out; omega
 clear h hn
 go_enter Try.func85, Try.ntmps85
 go_wp2
 go_loopw [5, 13] (fun v5 v13 wr => ∃ (i : Nat) (A' : Option Addr) (c' : Nat) (T' : TD), v13 = .int .i64 i ∧ v5 = .slice A' (whoP T (fun i _ => !(T.tk i).f0) i).length c' ∧ Aside0 (i ≤ n) ∧ Aside0 (TabOK wr base g T' ∧ TRel T T' (fun m => if m < i then goneP T (fun i _ => !(T.tk i).f0) m else T.js m) T.hi ∧ Chg (T.S g) w wr ∧ ∀ q, T'.S g q ∨ T'.oS q → T.S g q ∨ T.oS q) ∧ Aside0 ((Kd.int .i64).R 3 wr w.heap.size (fun _ => True) (.slice A' (whoP T (fun i _ => !(T.tk i).f0) i).length c') (whoP T (fun i _ => !(T.tk i).f0) i))) (fun _ v _ => n - (intOf v).toNat)
 case atStart => exact ⟨0, none, 0, T, rfl, rfl, ⟨by omega⟩, ⟨H.out, ⟨rfl, fun _ => rfl, fun _ => by simp, rfl, fun _ => .inl rfl⟩, Chg.refl _ _, fun _ q => q⟩, ⟨Kd.R_nil _ _ _ _ _⟩⟩
 case round =>
  obtain ⟨i, A', c', T', rfl, rfl, HI, HT, HR⟩ := hrel
  have i99 : (i : Int) ≤ 6 := by have := HI.out; omega
  by_cases hi : i < n
  ·have d0 : decide ((i : Int) < (n : Int)) = true := decide_eq_true (by omega)
   have d1 : decide (i < n) = true := decide_eq_true hi
   have HII := asd hi
   have LEN : Aside0 ((whoP T (fun i _ => !(T.tk i).f0) i).length ≤ i) := ⟨whoP_len T _ i⟩
   have JS : Aside0 (T'.js i = T.js i) := ⟨by rw [HT.out.2.1.js]; simp⟩
   clear hi
   cases hj : T.js i with
   | none =>
    have BC := asd (tbusy_none HT.out.1 (i : Int) (.inr (by rw [Int.toNat_natCast, JS.out]; exact hj)))
    have PK : Aside0 (whoP T (fun i _ => !(T.tk i).f0) (i + 1) = whoP T (fun i _ => !(T.tk i).f0) i) := ⟨whoP_no T _ i (by unfold pickP; rw [hj])⟩
    have GJ : Aside0 (goneP T (fun i _ => !(T.tk i).f0) i = T.js i) := ⟨by unfold goneP; rw [hj]⟩
    clear hj
    go_wp2_with (first | (go_at_call 87; refine BC.out.mono ?_; rintro e w1 ⟨rfl, rfl⟩))
    go_roundw
    case rel => exact ⟨i + 1, A', c', T', by go_num, by rw [PK.out], ⟨by have := HII.out; omega⟩, ⟨HT.out.1, HT.out.2.1.step (fun m => goneStep T _ i m (GJ.out)), HT.out.2.2⟩, ⟨by rw [PK.out]; exact HR.out⟩⟩
    case measure => have := HII.out; simp [intOf]; omega
   | some j =>
    obtain ⟨hk', hjb, b, hb⟩ := TD.js_some (JS.out.trans hj)
    have BC := asd (tbusy_some HT.out.1 i b hk' hb)
    have JB := asd hjb
    have HB := asd (And.intro hk' hb)
    have HJ := asd hj
    have SUBS : Aside0 (∀ q, T'.S g q → T.S g q) := ⟨fun q hq => by
     rcases HT.out.2.2.2 q (.inl hq) with h1 | h1
     ·exact h1
     ·exfalso
      -- a row of ops is no block of the table's own
      obtain ⟨t, cells, ht, hc⟩ := HT.out.1.S_typed q hq
      obtain ⟨ii, hii, hpp, hqq⟩ := h1
      cases hbb : T.pt ii with
      | none => exact hpp hbb
      | some b' =>
       obtain ⟨cells', hc'⟩ := Kd.R_typed (H.out.job ii b' hii hbb).2.2.2 q hqq
       have h76 : ¬ T.S g q := fun hs => by
        obtain ⟨t2, cells2, ht2, hc2⟩ := H.out.S_typed q hs
        rw [hc'] at hc2
        injection hc2 with hc2
        injection hc2 with _ h2
        subst h2
        exact absurd ht2 (by decide)
       have h9 := HT.out.2.2.1.block q (blk_lt hc') h76
       rw [hc, hc'] at h9
       injection h9 with h9
       injection h9 with _ h2
       subst h2
       exact absurd ht (by decide)⟩
    have CC := asd (rise1_calls HT.out.1.toTabA i hk')
    rw [HT.out.2.1.tk] at CC
    clear hk' hjb hb hj
    cases hp : (!(T.tk i).f0) with
    | false =>
     rw [hp] at CC
     have PK : Aside0 (whoP T (fun i _ => !(T.tk i).f0) (i + 1) = whoP T (fun i _ => !(T.tk i).f0) i) := ⟨whoP_no T _ i (by unfold pickP; rw [HJ.out]; exact hp)⟩
     have GJ : Aside0 (goneP T (fun i _ => !(T.tk i).f0) i = T.js i) := ⟨by unfold goneP; rw [HJ.out]; show (if (!(T.tk i).f0) = true then none else some j) = some j; rw [hp]; rfl⟩
     clear hp
     go_wp2_with (first | (go_at_call 87; refine BC.out.mono ?_; rintro e w1 ⟨rfl, rfl⟩) | (go_at_call 86; refine CC.out.mono ?_; rintro e w2 ⟨rfl, hb2⟩; have H2 := asd (HT.out.1.below hb2); have HR2 := asd (Kd.R_below HR.out hb2); have HC2 := asd (HT.out.2.2.1.below hb2); clear hb2))
     go_roundw
     case rel => exact ⟨i + 1, A', c', T', by go_num, by rw [PK.out], ⟨by have := HII.out; omega⟩, ⟨H2.out, HT.out.2.1.step (fun m => goneStep T _ i m (GJ.out)), HC2.out, HT.out.2.2.2⟩, ⟨by rw [PK.out]; exact HR2.out⟩⟩
     case measure => have := HII.out; simp [intOf]; omega
    | true =>
     rw [hp] at CC
     have PK : Aside0 (whoP T (fun i _ => !(T.tk i).f0) (i + 1) = whoP T (fun i _ => !(T.tk i).f0) i ++ [(i : Int)]) := ⟨whoP_yes T _ i (by unfold pickP; rw [HJ.out]; exact hp)⟩
     have GJ : Aside0 (goneP T (fun i _ => !(T.tk i).f0) i = none) := ⟨by unfold goneP; rw [HJ.out]; show (if (!(T.tk i).f0) = true then none else some j) = none; rw [hp]; rfl⟩
     clear hp
     go_wp2_with (first | (go_at_call 87; refine BC.out.mono ?_; rintro e w1 ⟨rfl, rfl⟩) | (go_at_call 86; refine CC.out.mono ?_; rintro e w2 ⟨rfl, hb2⟩; have H2 := asd (HT.out.1.below hb2); have HR2 := asd (Kd.R_below HR.out hb2); have HC2 := asd (HT.out.2.2.1.below hb2); clear hb2) | (at_builtin; refine Kd.R_append (Kd.int .i64) (w0 := w2) w.heap.size rfl (.tmp 26) (.tmp 28) 36 3 (.int .i64 0) 8 rfl Try.underlying36 info3 rfl (by decide) (by omega) (.slice A' (whoP T (fun i _ => !(T.tk i).f0) i).length c') (whoP T (fun i _ => !(T.tk i).f0) i) (i : Int) [.int .i64 (i : Int)] (fun _ => True) (fun _ => False) rfl rfl rfl (fun _ hk => hk.elim) (fun _ _ => trivial) HR2.out (Below.refl _ _) (by have := HC2.out.size; omega) (by have := LEN.out; have := HII.out; have := N6.out; omega) ?_; intro v3 w3 ho hb3 hg3 hat3; obtain ⟨A3, c3, rfl⟩ := Kd.R_slice ho; have HR3 := asd ho; have HB3 := asd hb3; clear ho hb3 hg3 hat3))
     have H3 := asd (H2.out.chgO (Chg.of_belowB HB3.out) (fun q hq hs => by
      rcases HT.out.2.2.2 q (.inl hq) with h1 | h1
      ·have := SLT.out q h1; omega
      ·have := H.out.toTabA.oS_lt q h1; omega) (fun q hq hs => by
      rcases HT.out.2.2.2 q (.inr hq) with h1 | h1
      ·have := SLT.out q h1; omega
      ·have := H.out.toTabA.oS_lt q h1; omega))
     have HC3 := asd (HC2.out.then_ (Chg.of_belowB HB3.out) (fun q hq => .inr hq))
     refine (tgone0_calls H3.out i b HB.out.1 HB.out.2).mono ?_
     rintro e w4 ⟨rfl, T2, h4, hr4, hc4, hs4⟩
     have H4 := asd h4
     have HR4 := asd (R_chgB HR3.out hc4 (fun q hq => by
      rcases HT.out.2.2.2 q (.inl hq) with h1 | h1
      ·exact SLT.out q h1
      ·exact H.out.toTabA.oS_lt q h1))
     have HC4 : Aside0 (Chg (T.S g) w w4) := ⟨HC3.out.then_ hc4 (fun q hq => .inl (SUBS.out q hq))⟩
     have RE4 : Aside0 (TRel T T2 (fun m => if m < i + 1 then goneP T (fun i _ => !(T.tk i).f0) m else T.js m) T.hi) := ⟨⟨hr4.len.trans HT.out.2.1.len, fun m => (hr4.tk m).trans (HT.out.2.1.tk m), fun m => by
      rw [hr4.js m]
      unfold goneJ
      rw [HT.out.2.1.js m]
      by_cases e : m = i
      ·subst e; rw [if_pos rfl, if_pos (by omega), GJ.out]
      ·rw [if_neg e]
       by_cases e2 : m < i
       ·rw [if_pos e2, if_pos (by omega)]
       ·rw [if_neg e2, if_neg (by omega)], hr4.hi.trans HT.out.2.1.hi, fun m => by
      rcases hr4.dm m with q | q
      ·rcases HT.out.2.1.dm m with q2 | q2
       ·exact .inl (q.trans q2)
       ·exact .inr (q.trans q2)
      ·exact .inr (q.trans HT.out.2.1.hi)⟩⟩
     have HS4 : Aside0 (∀ q, T2.S g q ∨ T2.oS q → T.S g q ∨ T.oS q) := ⟨fun q hq => HT.out.2.2.2 q (hs4 q hq)⟩
     clear h4 hr4 hc4 hs4
     go_wp2
     go_roundw
     case rel => exact ⟨i + 1, A3, c3, T2, by go_num, by rw [PK.out, List.length_append]; rfl, ⟨by have := HII.out; omega⟩, ⟨H4.out, RE4.out, HC4.out, HS4.out⟩, ⟨by rw [PK.out]; have h := HR4.out; rw [List.length_append] at h ⊢; exact h⟩⟩
     case measure => have := HII.out; simp [intOf]; omega
  ·have d0 : decide ((i : Int) < (n : Int)) = false := decide_eq_false (by omega)
   have d1 : decide (i < n) = false := decide_eq_false hi
   obtain rfl : i = n := by have := HI.out; omega
   have RE : Aside0 (TRel T T' (goneP T (fun i _ => !(T.tk i).f0)) T.hi) := ⟨⟨HT.out.2.1.len, HT.out.2.1.tk, fun m => by
    rw [HT.out.2.1.js m]
    by_cases e : m < i
    ·rw [if_pos e]
    ·rw [if_neg e]
     have h1 : T.js m = none := TD.js_none.2 (T.pt_ge (by rw [HN.out]; omega))
     unfold goneP; rw [h1], HT.out.2.1.hi, HT.out.2.1.dm⟩⟩
   clear hi
   go_wp2
   go_ret
   exact ⟨⟨A', c', rfl, HR.out⟩, T', HT.out.1, RE.out, HT.out.2.2⟩
end
end Go.Proofs.Ytjekfipaadbbbaa.Fn
namespace Go.Proofs.Ytjekfipaadbbbaa.Fn
open Go.RowKit Go.Proofs.YtjekfipaadbbbaaW.PrintWords Go.Proofs.YtjekfipaadbbbaaW.PrintLast Go.Proofs.YtjekfipaadbbbaaW.PrintMore
set_option linter.unusedVariables false
set_option linter.unusedSimpArgs false
def tkri10T : Bool × List (List Nat × List Nat) := (true, [([], []), ([0], [0]), ([1], [1]), ([2], [2]), ([], []), ([], []), ([5], [5]), ([3, 4, 6, 6], [3, 4, 6])])
def tkri10B : List Nat := [0, 1, 3, 7, 0, 0, 32, 127]
theorem tkri10_tab : rtab .any (opsOf Try.f40 10) = tkri10T := by kernel_rfl
theorem tkri10_bits : waitsOk tkri10T.2 tkri10B = true := by kernel_rfl
section
variable {w w1 w2 : World} {base g : Nat} {T : TD}
theorem whoP_congr {T T' : TD} {p p' : Nat → JB → Bool} (h : ∀ i, pickP T' p' i = pickP T p i) : ∀ n, whoP T' p' n = whoP T p n := by
 intro n
 induction n with
 | zero => rfl
 | succ n ih => show (if pickP T' p' n = true then whoP T' p' n ++ [(n : Int)] else whoP T' p' n) = (if pickP T p n = true then whoP T p n ++ [(n : Int)] else whoP T p n); rw [h, ih]
theorem TabOK.setDm (h : TabOK w base g T) (dm : Nat → Bool) (hd : ∀ i j, T.js i = some j → dm i = T.dm i) : TabOK w base g { T with dm := dm } :=
 ⟨⟨h.blk, h.row, h.job, h.inj, h.lg, h.ls, h.n6, h.rt⟩, h.hp, h.pl, h.inn, fun id j hj => by
  show T.H.dus.getD id 0 = dueT (dm id) (T.tk id) j
  rw [hd id j hj]; exact h.due id j hj, h.cnt⟩
theorem TabOK.setHi (h : TabOK w base g T) (b : Bool) : TabOK (w.setCell ⟨g, 2, none⟩ (.bool b)) base g { T with hi := b } :=
 ⟨h.toTabA.setHi b, h.hok_cell (p := ⟨g, 2, none⟩) (.inl rfl) (.bool b), h.pl, h.inn, h.due, h.cnt⟩
def TD.chH (T : TD) (i : Nat) (ats' pls' : List Int) : HD := { T.H with ats := ats', pls := pls', dus := T.H.dus.set i (dueT true (T.tk i) (T.jb i)) }
theorem TabOK.changed (h : TabOK w base g T) {i : Nat} {ats' pls' : List Int} (h7 : HOK w1 base T.gh T.H.A T.H.ca ats' T.H.gp T.H.cp pls' T.H.gd T.H.cd (T.H.dus.set i (dueT true (T.tk i) (T.jb i)))) (hs7 : SameIn T.H.pls pls') (hl7 : pls'.length = T.H.pls.length) (ha7 : ats'.length = T.H.ats.length) (hc7 : Chg (heapS T.gh T.H.A T.H.gp T.H.gd) w w1) :
  TabOK w1 base g (T.putH (T.chH i ats' pls') (fun m => if m = i then true else T.dm m)) :=
 ⟨(h.toTabA.heap_chg hc7 (fun q hq => h.hS_typed q hq)).putH _ _, h7, hl7.trans h.pl, fun id hid => by
  have h1 := hs7 id (by rw [h.pl]; exact hid)
  show pls'.getD id 0 = -1 ↔ T.js id = none
  rw [h1]; exact h.inn id hid, fun id j hj => by
  have hj' : T.js id = some j := hj
  show (T.H.dus.set i (dueT true (T.tk i) (T.jb i))).getD id 0 = dueT (if id = i then true else T.dm id) (T.tk id) j
  have hk := (TD.js_some hj').1
  rw [getD_set]
  by_cases e : id = i
  ·subst e
   rw [if_pos rfl, if_pos ⟨rfl, by have := h.hp.li.len; have := h.pl; have := h.n6; omega⟩, (TD.js_some hj').2.1]
  ·rw [if_neg e, if_neg (fun q => e q.1.symm)]; exact h.due id j hj', ha7.trans h.cnt⟩
set_option maxHeartbeats 16000000 in
set_option maxRecDepth 100000 in
theorem trise_calls (h : TabOK w base g T) : Calls Try.prog 40 #[.pointer (some ⟨g, 0, none⟩)] w fun e w' => (∃ A' c', e = .returned (.slice A' (whoP T (fun i _ => !(T.tk i).f0) T.sl.length).length c') ∧ (Kd.int .i64).R 3 w' w.heap.size (fun _ => True) (.slice A' (whoP T (fun i _ => !(T.tk i).f0) T.sl.length).length c') (whoP T (fun i _ => !(T.tk i).f0) T.sl.length)) ∧ ∃ T', TabOK w' base g T' ∧ TRel T T' (goneP T (fun i _ => !(T.tk i).f0)) true ∧ Chg (T.S g) w w' ∧ (∀ q, T'.S g q → T.S g q) ∧ (∀ q, T'.S g q ∨ T'.oS q → T.S g q ∨ T.oS q) ∧ ∀ i, T'.dm i = true := by
 have hu := Try.underlying93
 have NC := asd (tnone_calls h)
 have H1 := asd (h.setHi true)
 have hx2 := (blk_cell h.blk 2).trans rfl
 have hxf := blk_frozen h.blk 2
 have EC := asd (teachRise H1.out)
 have HC1 := asd ((Chg.refl (T.S g) w).set_ (p := ⟨g, 2, none⟩) (.inl (.inl rfl)) (.bool true))
 have N6 := asd h.n6
 have SLT : Aside0 (∀ q, T.S g q → q < w.heap.size) := ⟨h.lt⟩
 have SZ1 : Aside0 ((w.setCell ⟨g, 2, none⟩ (.bool true)).heap.size = w.heap.size) := ⟨by simp [World.setCell]⟩
 have H := asd h
 have EC2 : Aside0 (Calls Try.prog 85 #[.pointer (some ⟨g, 0, none⟩), .func (.func 86) #[] #[]] (w.setCell ⟨g, 2, none⟩ (.bool true)) fun e w' => (∃ A' c', e = .returned (.slice A' (whoP T (fun i _ => !(T.tk i).f0) T.sl.length).length c') ∧ (Kd.int .i64).R 3 w' (w.setCell ⟨g, 2, none⟩ (.bool true)).heap.size (fun _ => True) (.slice A' (whoP T (fun i _ => !(T.tk i).f0) T.sl.length).length c') (whoP T (fun i _ => !(T.tk i).f0) T.sl.length)) ∧ TAfter0 (w.setCell ⟨g, 2, none⟩ (.bool true)) w' base g { T with hi := true } (goneP T (fun i _ => !(T.tk i).f0)) true) := ⟨by
  have h := EC.out
  have e1 : whoP { T with hi := true } (fun i _ => !(TD.tk { T with hi := true } i).f0) (TD.sl { T with hi := true }).length = whoP T (fun i _ => !(T.tk i).f0) T.sl.length := whoP_congr (T := T) (T' := { T with hi := true }) (p := (fun i _ => !(T.tk i).f0)) (p' := fun i _ => !(TD.tk { T with hi := true } i).f0) (fun i => rfl) T.sl.length
  rw [e1] at h
  exact h⟩
 clear h EC
 generalize hn : T.sl.length = n at EC2 N6 ⊢
 have HN := asd hn
 have n6 : (n : Int) ≤ 6 := by have := N6.out; omega
 generalize hL : whoP T (fun i _ => !(T.tk i).f0) n = L at EC2 ⊢
 clear hn hL
 go_enter Try.func40, Try.ntmps40
 go_wp2_with (first | (go_at_call 84; refine NC.out.mono ?_; rintro e w1 ⟨rfl, rfl⟩))
 refine EC2.out.mono ?_
 rintro e w2 ⟨⟨A', c', rfl, hr⟩, T2, h2, hr2, hc2, hs2⟩
 rw [SZ1.out] at hr
 have HR2 := asd hr
 have SS2 : Aside0 (∀ q, T2.S g q → T.S g q) := ⟨fun q hq => by
  rcases hs2 q (.inl hq) with h1 | h1
  ·exact h1
  ·exfalso
   have h1' : T.oS q := h1
   obtain ⟨t, cells, ht, hc⟩ := h2.S_typed q hq
   obtain ⟨ii, hii, hpp, hqq⟩ := h1'
   cases hbb : T.pt ii with
   | none => exact hpp hbb
   | some b' =>
    obtain ⟨cells', hc'⟩ := Kd.R_typed (H1.out.job ii b' hii hbb).2.2.2 q hqq
    have h76 : ¬ TD.S { T with hi := true } g q := fun hs => by
     obtain ⟨t2, cells2, ht2, hc2⟩ := H1.out.S_typed q hs
     rw [hc'] at hc2
     injection hc2 with hc2
     injection hc2 with _ h2
     subst h2
     exact absurd ht2 (by decide)
    have h9 := hc2.block q (blk_lt hc') h76
    rw [hc, hc'] at h9
    injection h9 with h9
    injection h9 with _ h2
    subst h2
    exact absurd ht (by decide)⟩
 have HT2 : Aside0 (TabOK w2 base g T2 ∧ TRel T T2 (goneP T (fun i _ => !(T.tk i).f0)) true ∧ Chg (T.S g) w w2 ∧ (∀ q, T2.S g q → T.S g q) ∧ ∀ q, T2.S g q ∨ T2.oS q → T.S g q ∨ T.oS q) := ⟨h2, ⟨hr2.len, hr2.tk, hr2.js, hr2.hi, hr2.dm⟩, HC1.out.then_ hc2 (fun q hq => .inl hq), SS2.out, hs2⟩
 have hx0 := (blk_cell h2.blk 0).trans rfl
 have LN2 : T2.sl.length = n := hr2.len.trans HN.out
 rw [LN2] at hx0
 clear h2 hr2 hc2 hs2 hr SS2 LN2 hx2 hxf
 go_wp2
 go_loopw [18] (fun v18 wr => ∃ (i : Nat) (T' : TD), v18 = .int .i64 i ∧ Aside0 (i ≤ n ∧ ∀ m, m < i → T'.dm m = true) ∧ Aside0 (TabOK wr base g T' ∧ TRel T T' (goneP T (fun i _ => !(T.tk i).f0)) true ∧ Chg (T.S g) w wr ∧ (∀ q, T'.S g q → T.S g q) ∧ ∀ q, T'.S g q ∨ T'.oS q → T.S g q ∨ T.oS q) ∧ Aside0 ((Kd.int .i64).R 3 wr w.heap.size (fun _ => True) (.slice A' L.length c') L)) (fun v _ => n - (intOf v).toNat)
 case atStart => exact ⟨0, T2, rfl, ⟨by omega, fun m hm => absurd hm (by omega)⟩, HT2, HR2⟩
 case round =>
  clear HT2 HR2
  obtain ⟨i, T', rfl, HI, HT, HR⟩ := hrel
  have i99 : (i : Int) ≤ 6 := by have := HI.out.1; omega
  by_cases hi : i < n
  ·have d0 : decide ((i : Int) < (n : Int)) = true := decide_eq_true (by omega)
   have d1 : decide (i < n) = true := decide_eq_true hi
   have HII := asd hi
   clear hi
   cases hj : T'.js i with
   | none =>
    have BC := asd (tbusy_none HT.out.1 (i : Int) (.inr (by rw [Int.toNat_natCast]; exact hj)))
    have HD : Aside0 (TabOK wr base g { T' with dm := fun m => if m = i then true else T'.dm m }) := ⟨HT.out.1.setDm _ (fun m j hm => if_neg (fun e => by rw [e, hj] at hm; cases hm))⟩
    clear hj
    go_wp2_with (first | (go_at_call 87; refine BC.out.mono ?_; rintro e w1 ⟨rfl, rfl⟩))
    go_roundw
    case rel => exact ⟨i + 1, { T' with dm := fun m => if m = i then true else T'.dm m }, by go_num, ⟨by have := HII.out; omega, fun m hm => by
      by_cases e : m = i
      ·exact if_pos e
      ·exact (if_neg e).trans (HI.out.2 m (by omega))⟩, ⟨HD.out, ⟨HT.out.2.1.len, HT.out.2.1.tk, HT.out.2.1.js, HT.out.2.1.hi, fun m => by
      by_cases e : m = i
      ·exact .inr (if_pos e)
      ·rcases HT.out.2.1.dm m with q | q
       ·exact .inl ((if_neg e).trans q)
       ·exact .inr ((if_neg e).trans q)⟩, HT.out.2.2⟩, HR⟩
    case measure => have := HII.out; simp [intOf]; omega
   | some j =>
    obtain ⟨hk', hjb, b, hb⟩ := TD.js_some hj
    have BC := asd (tbusy_some HT.out.1 i b hk' hb)
    have HB := asd (And.intro hk' hb)
    have INN : Aside0 (T'.H.pls.getD i 0 ≠ -1) := ⟨fun q => by have := (HT.out.1.inn i (by have := HII.out; have := N6.out; omega)).1 q; rw [hj] at this; cases this⟩
    clear hk' hjb hb hj
    go_wp2_with (first | (go_at_call 87; refine BC.out.mono ?_; rintro e w1 ⟨rfl, rfl⟩))
    refine start_ (n := 8) (S := fun w' => w'.cell? ⟨g, 1, none⟩ = some (.pointer (some ⟨T'.gh, 0, none⟩))) (ds := [7]) #[false, false, false, false, false, false, false, false] (by kernel_rfl) rfl rfl ((blk_cell HT.out.1.blk 1).trans rfl) (fun hHeld => ?_); refine with_tabW tkri10_tab tkri10_bits (fun HT_ HW_ => ?_)
    have HD := asd (HT.out.1.drew)
    have HCD := asd (HT.out.2.2.1.drew)
    have HRD := asd (Kd.R_drew HR.out)
    clear hHeld
    generalize wr.drew = w5 at HD HCD HRD ⊢
    have hHeld : w5.cell? ⟨g, 1, none⟩ = some (.pointer (some ⟨T'.gh, 0, none⟩)) := (blk_cell HD.out.blk 1).trans rfl
    refine pure_ (i := 0) (N := (some 26)) (v := ?_) (a' := ?_) #[true, false, false, false, false, false, false, false] rfl rfl (any_of HT_.out (by kernel_rfl)) (fun _ _ _ h => h) (Or.inl ⟨by rfl, ?_⟩) ?_ ?_
    rotate_left
    ·intro w'
     go_simp
     with_reducible rfl
    rotate_left
    ·simp only [Act.put, sB, i64_w, i32_w]
     rfl
    refine pure_ (i := 1) (N := (some 27)) (v := ?_) (a' := ?_) #[true, true, false, false, false, false, false, false] rfl rfl (any_of HT_.out (by kernel_rfl)) (fun _ _ _ h => h) (Or.inl ⟨by rfl, ?_⟩) ?_ ?_
    rotate_left
    ·intro w'
     go_simp
     with_reducible rfl
    rotate_left
    ·simp only [Act.put, sB, i64_w, i32_w]
     rfl
    refine pure_ (i := 2) (N := (some 28)) (v := ?_) (a' := ?_) #[true, true, true, false, false, false, false, false] rfl rfl (any_of HT_.out (by kernel_rfl)) (fun _ _ _ h => h) (Or.inl ⟨by rfl, ?_⟩) ?_ ?_
    rotate_left
    ·intro w'
     go_simp
     with_reducible rfl
    rotate_left
    ·simp only [Act.put, sB, i64_w, i32_w]
     rfl
    refine take_ (i := 3) (N := (some 29)) (v := ?_) (a' := ?_) #[true, true, true, true, false, false, false, false] rfl rfl (take_ofW HT_.out HW_.out (by kernel_rfl)) (fun _ _ _ h => h) (Or.inl ⟨by rfl, ?_⟩) hHeld ?_ ?_
    rotate_left
    ·rintro w' s0
     go_simp
     with_reducible rfl
    rotate_left
    ·simp only [Act.put, sB, i64_w, i32_w]
     rfl
    refine pure_ (i := 4) (N := (some 30)) (v := ?_) (a' := ?_) #[true, true, true, true, true, false, false, false] rfl rfl (any_of HT_.out (by kernel_rfl)) (fun _ _ _ h => h) (Or.inl ⟨by rfl, ?_⟩) ?_ ?_
    rotate_left
    ·intro w'
     go_simp
     with_reducible rfl
    rotate_left
    ·simp only [Act.put, sB, i64_w, i32_w]
     rfl
    refine pure_ (i := 5) (N := (some 31)) (v := ?_) (a' := ?_) #[true, true, true, true, true, true, false, false] rfl rfl (any_of HT_.out (by kernel_rfl)) (fun _ _ _ h => h) (Or.inl ⟨by rfl, ?_⟩) ?_ ?_
    rotate_left
    ·intro w'
     go_simp
     with_reducible rfl
    rotate_left
    ·simp only [Act.put, sB, i64_w, i32_w]
     rfl
    refine one_ (i := 6) (N := (some 32)) #[true, true, true, true, true, true, true, false] rfl rfl (one_of HT_.out (by kernel_rfl)) (by decide) (fun K hK => ?_)
    refine goes_ Try.func83 (by kernel_rfl) rfl #[.pointer (some ⟨T'.gs, i * 7, none⟩), .bool true] (by rfl) rfl rfl (by simp [Act.eval]) ?_
    refine (tdue_calls HD.out.toTabA i b HB.out.1 HB.out.2 true).mono ?_
    rintro e w6 ⟨rfl, hb6⟩
    have H6 := asd (HD.out.below hb6)
    have HC6 := asd (HCD.out.below hb6)
    have HR6 := asd (Kd.R_below HRD.out hb6)
    clear hb6 HD HCD HRD
    refine ⟨_, rfl, ?_⟩
    refine hK.out _ _ ((blk_cell H6.out.blk 1).trans rfl) (fun hHeld => ?_)
    clear hK K
    refine norm_ (a' := ?_) ?_ ?_
    rotate_left
    ·show Act.put _ (some 32) _ = _
     simp only [Act.put, sB, i64_w, i32_w]
     rfl
    refine last_ (i := 7) (N := (some 33)) #[true, true, true, true, true, true, true, true] rfl rfl (one_of HT_.out (by kernel_rfl)) (by decide) (fun K hK => ?_)
    refine goes_ Try.func31 (by kernel_rfl) rfl #[.pointer (some ⟨T'.gh, 0, none⟩), .int .i64 (i : Int), .int .i64 (dueT true (T'.tk i) (T'.jb i))] (by rfl) rfl rfl (by simp [Act.eval]) ?_
    refine (change_calls H6.out.hp (i : Int) (dueT true (T'.tk i) (T'.jb i)) (by omega) (by have := H6.out.pl; have := HII.out; have := N6.out; omega) (by rw [Int.toNat_natCast]; exact INN.out) (by have := H6.out.cnt; have := numJ_le T'.js; omega)).mono ?_
    rintro e w7 ⟨rfl, ⟨ats', pls', h7, hs7, hl7, ha7⟩, hc7⟩
    rw [Int.toNat_natCast] at h7
    have H7 := asd (H6.out.changed (i := i) h7 hs7 hl7 ha7 hc7)
    have HC7 : Aside0 (Chg (T.S g) w w7) := ⟨HC6.out.then_ hc7 (fun q hq => .inl (HT.out.2.2.2.1 q ((T'.S_iff g q).2 (.inr hq))))⟩
    have HR7 := asd (R_chgB HR6.out hc7 (fun q hq => SLT.out q (HT.out.2.2.2.1 q ((T'.S_iff g q).2 (.inr hq)))))
    clear h7 hs7 hl7 ha7 hc7 H6 HC6 HR6
    refine ⟨_, rfl, ?_⟩
    refine hK.out _ _ ?_
    clear hK K
    refine norm_ (a' := ?_) ?_ ?_
    rotate_left
    ·show Act.put _ (some 33) _ = _
     simp only [Act.put, sB, i64_w, i32_w]
     rfl
    refine done_ (done_of HT_.out (by kernel_rfl)) ?_
    try go_wp2
    go_roundw
    case rel => exact ⟨i + 1, T'.putH (T'.chH i ats' pls') (fun m => if m = i then true else T'.dm m), by go_num, ⟨by have := HII.out; omega, fun m hm => by
      by_cases e : m = i
      ·exact if_pos e
      ·exact (if_neg e).trans (HI.out.2 m (by omega))⟩, ⟨H7.out, ⟨HT.out.2.1.len, HT.out.2.1.tk, HT.out.2.1.js, HT.out.2.1.hi, fun m => by
      by_cases e : m = i
      ·exact .inr (if_pos e)
      ·rcases HT.out.2.1.dm m with q | q
       ·exact .inl ((if_neg e).trans q)
       ·exact .inr ((if_neg e).trans q)⟩, HC7.out, HT.out.2.2.2.1, HT.out.2.2.2.2⟩, HR7⟩
    case measure => have := HII.out; simp [intOf]; omega
  ·have d0 : decide ((i : Int) < (n : Int)) = false := decide_eq_false (by omega)
   have d1 : decide (i < n) = false := decide_eq_false hi
   obtain rfl : i = n := by have := HI.out.1; omega
   clear hi
   go_wp2
   go_ret
   exact ⟨⟨A', c', rfl, HR.out⟩, { T' with dm := fun _ => true }, HT.out.1.setDm _ (fun m j hm => (HI.out.2 m (by have h1 := (TD.js_some hm).1; have h2 := HT.out.2.1.len; have h3 := HN.out; omega)).symm), ⟨HT.out.2.1.len, HT.out.2.1.tk, HT.out.2.1.js, HT.out.2.1.hi, fun _ => .inr rfl⟩, HT.out.2.2.1, HT.out.2.2.2.1, HT.out.2.2.2.2, fun _ => rfl⟩
set_option maxHeartbeats 16000000 in
set_option maxRecDepth 100000 in
theorem tfall_no (h : TabOK w base g T) (hf : T.hi = false ∨ 0 < T.H.ats.length) : Calls Try.prog 41 #[.pointer (some ⟨g, 0, none⟩)] w fun e w' => e = .returned (.bool false) ∧ w = w' := by
 have HC := asd (thigh_calls h)
 have LC := asd (tlen_calls h)
 generalize T.hi = hi at HC hf
 generalize T.H.ats.length = n at LC hf
 clear h
 cases hi with
 | false =>
  clear hf
  go_enter Try.func41, Try.ntmps41
  go_wp2_with (first | (go_at_call 44; refine HC.out.mono ?_; rintro e w1 ⟨rfl, rfl⟩))
  go_ret
  exact ⟨rfl, rfl⟩
 | true =>
  have h0 : 0 < n := hf.elim (fun q => by cases q) (fun q => q)
  have d0 : decide ((n : Int) > 0) = true := decide_eq_true (by omega)
  have d1 : decide (0 < (n : Int)) = true := d0
  have d2 : decide (0 < n) = true := decide_eq_true h0
  clear hf h0
  go_enter Try.func41, Try.ntmps41
  go_wp2_with (first | (go_at_call 44; refine HC.out.mono ?_; rintro e w1 ⟨rfl, rfl⟩) | (go_at_call 53; refine LC.out.mono ?_; rintro e w1 ⟨rfl, rfl⟩))
  go_ret
  exact ⟨rfl, rfl⟩
set_option maxHeartbeats 16000000 in
set_option maxRecDepth 100000 in
theorem tfall_yes (h : TabOK w base g T) (hh : T.hi = true) (hl : T.H.ats.length = 0) : Calls Try.prog 41 #[.pointer (some ⟨g, 0, none⟩)] w fun e w' => e = .returned (.bool true) ∧ w' = w.setCell ⟨g, 2, none⟩ (.bool false) ∧ TabOK w' base g { T with hi := false, dm := fun _ => false } := by
 have HC := asd (thigh_calls h)
 have LC := asd (tlen_calls h)
 rw [hh] at HC
 rw [hl] at LC
 have hu := Try.underlying93
 have hx2 := (blk_cell h.blk 2).trans rfl
 have hxf := blk_frozen h.blk 2
 have FIN : Aside0 (TabOK (w.setCell ⟨g, 2, none⟩ (.bool false)) base g { T with hi := false, dm := fun _ => false }) := ⟨(h.setHi false).setDm (fun _ => false) (fun i j hj => by
  have h1 : T.js i = some j := hj
  rw [h.len0.1 hl i] at h1; cases h1)⟩
 clear h hh hl
 go_enter Try.func41, Try.ntmps41
 go_wp2_with (first | (go_at_call 44; refine HC.out.mono ?_; rintro e w1 ⟨rfl, rfl⟩) | (go_at_call 53; refine LC.out.mono ?_; rintro e w1 ⟨rfl, rfl⟩))
 go_ret
 exact ⟨rfl, rfl, FIN.out⟩
end
end Go.Proofs.Ytjekfipaadbbbaa.Fn
namespace Go.Proofs.Ytjekfipaadbbbaa.Fn
open Go.RowKit Go.Proofs.YtjekfipaadbbbaaW.PrintWords Go.Proofs.YtjekfipaadbbbaaW.PrintLast Go.Proofs.YtjekfipaadbbbaaW.PrintMore
set_option linter.unusedVariables false
set_option linter.unusedSimpArgs false
theorem C_one {α : Type} {d : Kd α} {w : World} {b : Nat} {e : TypeId} {cs : List Value} {x : α} (hb : w.heap[b]? = some (.cells cs.toArray e (0, 0))) (hk : d.K w x cs) : Kd.C d w (some ⟨b, 0, none⟩) ([x] : List α).length [x] := by
 refine ⟨rfl, by simp, fun _ => ⟨⟨b, 0, none⟩, rfl, fun j p hj => ?_⟩⟩
 cases j with
 | zero =>
  obtain rfl : x = p := by simpa using hj
  refine ⟨cs, d.K_len hk, hk, fun i u hu => ?_⟩
  have h1 := blk_cell hb i
  have e0 : (⟨b, 0, none⟩ : Addr).add (0 * d.sz + i) = ⟨b, i, none⟩ := by
   rw [Nat.zero_mul, Nat.zero_add]
   unfold Addr.add
   split <;> simp_all
  rw [e0, h1, List.getElem?_toArray]; exact hu
 | succ j => simp at hj
def kx : S44 := ⟨true, 9, 9, 4, 1, 3⟩
def kop : S76 := ⟨7, 0, 0⟩
def kj (n : Int) : JB := ⟨0, 0, 2, n, [kop]⟩
theorem TabOK.of_js {w : World} {base g : Nat} {T : TD} {k : Nat} {j : JB} (h : T.js k = some j) : k < T.sl.length ∧ T.jb k = j ∧ ∃ b, T.pt k = some b := by
 obtain ⟨h1, h2, h3⟩ := TD.js_some h
 exact ⟨h1, h2.symm, h3⟩
set_option maxHeartbeats 16000000 in
set_option maxRecDepth 100000 in
theorem tknows_calls (w : World) : Calls Try.prog 36 #[] w fun e w' => e = .returned (.bool true) ∧ Below w.heap.size w w' := by
 have hu76 := Try.underlying76
 have Z1 := asd (heap_alloc_new w (.cells #[.bool true, .int .i64 9, .int .i64 9, .int .i64 4, .int .i64 1, .int .i64 3] 45))
 have HB1 := asd (below_alloc (Below.refl w.heap.size w) (.cells #[.bool true, .int .i64 9, .int .i64 9, .int .i64 4, .int .i64 1, .int .i64 3] 45))
 have NW := asd (tnew_calls (some ⟨w.heap.size, 0, none⟩) 1 [kx] _ (C_one (cs := [.bool true, .int .i64 9, .int .i64 9, .int .i64 4, .int .i64 1, .int .i64 3]) Z1.out (k44_mk _ kx)) (by simp) (by decide))
 go_enter Try.func36, Try.ntmps36
 go_wp2_with fail
 refine NW.out.mono ?_
 rintro e w2 ⟨base, g, T, rfl, h2, hsl, hhi, hdm, hlo, hb2⟩
 have HB2 := asd (below_step HB1.out hb2)
 have J0 : Aside0 (∀ i, T.pt i = none) := ⟨fun i => by
  unfold TD.pt
  rw [hsl]
  rcases i with _ | i <;> simp [List.getD, zSl]⟩
 have TKX : Aside0 (T.tk 0 = kx) := ⟨by unfold TD.tk; rw [hsl]; rfl⟩
 have LEN : Aside0 (T.sl.length = 1) := ⟨by rw [hsl]; rfl⟩
 have HHI := asd hhi
 have HDM := asd hdm
 have LO : Aside0 (w.heap.size ≤ base) := ⟨Nat.le_trans HB1.out.size hlo⟩
 have H2 := asd (h2.below (below_alloc (Below.refl _ _) (.cells #[.int .i64 7, .int .i64 0, .int .i64 0] 76)))
 have Z3 := asd (heap_alloc_new w2 (.cells #[.int .i64 7, .int .i64 0, .int .i64 0] 76))
 have HB3 := asd (below_alloc HB2.out (.cells #[.int .i64 7, .int .i64 0, .int .i64 0] 76))
 have PC := tput_ok H2.out 0 0 2 (some ⟨w2.heap.size, 0, none⟩) 1 [kop] (by rw [LEN.out]; omega) (J0.out 0) (.inl HHI.out) (C_one (cs := [.int .i64 7, .int .i64 0, .int .i64 0]) Z3.out (k76_mk _ kop)) (by simp) (by decide)
 have e0 : ((0 : Nat) : Int) = 0 := rfl
 have e1 : ([kop] : List S76).length = 1 := rfl
 rw [e0, e1] at PC
 clear h2 hsl hhi hdm hlo hb2 NW Z1 HB1
 go_wp2_with fail
 refine PC.mono ?_
 rintro e w4 ⟨rfl, T4, h4, hr4, hc4, _⟩
 have H4 := asd h4
 have J4 : Aside0 (∀ i, T4.js i = if i = 0 then some (kj 0) else none) := ⟨fun i => by
  rw [hr4.js i]
  unfold putJ
  by_cases e : i = 0
  ·rw [if_pos e, if_pos e]; rfl
  ·rw [if_neg e, if_neg e]; exact TD.js_none.2 (J0.out i)⟩
 have K4 : Aside0 (T4.tk 0 = kx ∧ T4.hi = false ∧ ∀ i, T4.dm i = T4.hi) := ⟨(hr4.tk 0).trans TKX.out, hr4.hi.trans HHI.out, fun i => by
  rcases hr4.dm i with q | q
  ·rw [q, HDM.out i, hr4.hi]
  ·rw [q, hr4.hi]⟩
 have HB4 : Aside0 (Below w.heap.size w w4) := ⟨((Chg.of_belowB HB3.out).then_ hc4 (fun q hq => .inl (by have := H2.out.low q hq; have := LO.out; omega))).to_below (fun _ h => h) (Nat.le_refl _)⟩
 clear h4 hr4 hc4 PC H2 Z3 HB3 J0 TKX LEN HHI HDM
 obtain ⟨l4, jb4, b4, p4⟩ := TabOK.of_js (w := w4) (base := base) (g := g) (T := T4) ((J4.out 0).trans (if_pos rfl))
 have P4 := asd (And.intro l4 (And.intro jb4 p4))
 have n4 : T4.H.ats.length = 1 := by rw [H4.out.cnt]; unfold numJ b2; simp [J4.out]
 have FC := asd (tfirst_some H4.out K4.out.2.2 (by omega))
 clear l4 jb4 p4 n4
 go_wp2_with fail
 refine FC.out.mono ?_
 rintro e w5 ⟨⟨k, j, rfl, hlt⟩, hb5⟩
 have hk0 : k = 0 := by
  have h1 := hlt.1
  rw [J4.out] at h1
  by_cases e : k = 0
  ·exact e
  ·rw [if_neg e] at h1; cases h1
 subst hk0
 have hj0 : j = kj 0 := by
  have h1 := hlt.1
  rw [J4.out, if_pos rfl] at h1
  exact (Option.some.inj h1).symm
 subst hj0
 have hdu : dueT T4.hi (T4.tk 0) (kj 0) = 4 := by rw [K4.out.1, K4.out.2.1]; decide
 rw [hdu, e0]
 have H5 := asd (H4.out.below hb5)
 have HB5 := asd (below_step HB4.out hb5)
 have RC := trun_calls H5.out 0 b4 P4.out.1 P4.out.2.2 (by rw [P4.out.2.1]; decide)
 rw [P4.out.2.1, K4.out.1, K4.out.2.1] at RC
 have ro : opV (opJ (kj 0)) = .agg #[.int .i64 7, .int .i64 0, .int .i64 0] := rfl
 have rx : outJ false kx (kj 0) = 3 := by decide
 rw [ro, rx, e0] at RC
 have rj : Aside0 (∀ i, runJ T4 0 i = if i = 0 then some (kj 1) else none) := ⟨fun i => by
  unfold runJ
  rw [P4.out.2.1, K4.out.1, K4.out.2.1, rx, if_neg (by simp)]
  unfold putJ
  by_cases e : i = 0
  ·rw [if_pos e, if_pos e]; rfl
  ·rw [if_neg e, if_neg e, J4.out, if_neg e]⟩
 clear hlt hb5 hdu FC H4 HB4 ro rx
 go_wp2_with fail
 refine RC.mono ?_
 rintro e w6 ⟨rfl, T6, h6, hr6, hc6, _⟩
 have H6 := asd (h6.below (below_alloc (Below.refl _ _) (.cells #[.int .i64 7, .int .i64 0, .int .i64 0] 76)))
 have J6 : Aside0 (∀ i, T6.js i = if i = 0 then some (kj 1) else none) := ⟨fun i => (hr6.js i).trans (rj.out i)⟩
 have K6 : Aside0 (T6.tk 0 = kx ∧ T6.hi = false ∧ ∀ i, T6.dm i = T6.hi) := ⟨(hr6.tk 0).trans K4.out.1, hr6.hi, fun i => by
  rcases hr6.dm i with q | q
  ·rw [q, K4.out.2.2 i, K4.out.2.1, hr6.hi]
  ·rw [q, hr6.hi]⟩
 have HB6 : Aside0 (Below w.heap.size w (w6.alloc (.cells #[.int .i64 7, .int .i64 0, .int .i64 0] 76))) := ⟨below_alloc (((Chg.of_belowB HB5.out).then_ hc6 (fun q hq => .inl (by have := H5.out.low q hq; have := LO.out; omega))).to_below (fun _ h => h) (Nat.le_refl _)) _⟩
 have Z6 := asd (heap_alloc_new w6 (.cells #[.int .i64 7, .int .i64 0, .int .i64 0] 76))
 have LT6 : Aside0 (∀ q, T6.S g q → q < w6.heap.size) := ⟨h6.lt⟩
 have LO6 : Aside0 (∀ q, T6.S g q → w.heap.size ≤ q) := ⟨fun q hq => Nat.le_trans LO.out (h6.low q hq)⟩
 clear h6 hr6 hc6 RC H5 HB5 rj K4 J4 P4
 obtain ⟨l6, jb6, b6, p6⟩ := TabOK.of_js (w := w6) (base := base) (g := g) (T := T6) ((J6.out 0).trans (if_pos rfl))
 have RS := asd (trise_calls H6.out)
 have WH : Aside0 (whoP T6 (fun i _ => !(T6.tk i).f0) T6.sl.length = []) := ⟨by
  have h0 : ∀ i, whoP T6 (fun i _ => !(T6.tk i).f0) i = [] := by
   intro i
   induction i with
   | zero => rfl
   | succ i ih =>
    rw [whoP_no _ _ i, ih]
    unfold pickP
    rw [J6.out]
    by_cases e : i = 0
    ·rw [if_pos e, e]
     show (!(T6.tk 0).f0) = false
     rw [K6.out.1]; rfl
    ·rw [if_neg e]
  exact h0 _⟩
 have GN : Aside0 (∀ i, goneP T6 (fun i _ => !(T6.tk i).f0) i = if i = 0 then some (kj 1) else none) := ⟨fun i => by
  unfold goneP
  rw [J6.out]
  by_cases e : i = 0
  ·rw [if_pos e, e]
   show (if (!(T6.tk 0).f0) = true then none else some (kj 1)) = _
   rw [K6.out.1]; rfl
  ·rw [if_neg e]⟩
 rw [WH.out] at RS
 clear l6 jb6 p6 WH
 go_wp2_with fail
 refine RS.out.mono ?_
 rintro e w7 ⟨⟨A7, c7, rfl, _⟩, T7, h7, hr7, hc7, _, _, hd7⟩
 have H7 := asd h7
 have J7 : Aside0 (∀ i, T7.js i = if i = 0 then some (kj 1) else none) := ⟨fun i => (hr7.js i).trans (GN.out i)⟩
 have K7 : Aside0 (T7.tk 0 = kx ∧ T7.hi = true ∧ ∀ i, T7.dm i = true) := ⟨(hr7.tk 0).trans K6.out.1, hr7.hi, hd7⟩
 have HB7 : Aside0 (Below w.heap.size w w7) := ⟨((Chg.of_belowB HB6.out).then_ hc7 (fun q hq => .inl (LO6.out q hq))).to_below (fun _ h => h) (Nat.le_refl _)⟩
 have Z7 := asd (blk_chg Z6.out hc7 (fun q => by have := LT6.out _ q; omega))
 clear h7 hr7 hc7 hd7 RS H6 HB6 GN J6 K6 Z6
 obtain ⟨l7, jb7, b7, p7⟩ := TabOK.of_js (w := w7) (base := base) (g := g) (T := T7) ((J7.out 0).trans (if_pos rfl))
 have P7 := asd (And.intro l7 (And.intro jb7 p7))
 have RC := trun_calls H7.out 0 b7 l7 p7 (by rw [jb7]; decide)
 rw [jb7, K7.out.1, K7.out.2.1] at RC
 have ro : opV (opJ (kj 1)) = .agg #[.int .i64 0, .int .i64 0, .int .i64 0] := rfl
 have rx : outJ true kx (kj 1) = 1 := by decide
 rw [ro, rx, e0] at RC
 have rj : Aside0 (∀ i, runJ T7 0 i = none) := ⟨fun i => by
  unfold runJ
  rw [P7.out.2.1, K7.out.1, K7.out.2.1, rx, if_pos (.inl rfl)]
  unfold goneJ
  by_cases e : i = 0
  ·rw [if_pos e]
  ·rw [if_neg e, J7.out, if_neg e]⟩
 have LT7 : Aside0 (w6.heap.size < w7.heap.size ∧ ¬ T7.S g w6.heap.size) := ⟨blk_lt Z7.out, fun q => by
  obtain ⟨t, cells, ht, hc⟩ := H7.out.S_typed _ q
  rw [Z7.out] at hc
  injection hc with hc
  injection hc with _ h2
  subst h2
  exact absurd ht (by decide)⟩
 clear l7 jb7 p7 ro rx
 go_wp2_with fail
 refine RC.mono ?_
 rintro e w8 ⟨rfl, T8, h8, hr8, hc8, _⟩
 have H8 := asd (h8.below (below_alloc (Below.refl _ _) (.cells #[.int .i64 0, .int .i64 0, .int .i64 0] 76)))
 have J8 : Aside0 (∀ i, T8.js i = none) := ⟨fun i => (hr8.js i).trans (rj.out i)⟩
 have Z8 := asd (blk_alloc (blk_chg Z7.out hc8 LT7.out.2) (.cells #[.int .i64 0, .int .i64 0, .int .i64 0] 76))
 have HB8 : Aside0 (Below w.heap.size w (w8.alloc (.cells #[.int .i64 0, .int .i64 0, .int .i64 0] 76))) := ⟨below_alloc (((Chg.of_belowB HB7.out).then_ hc8 (fun q hq => .inl (by have := H7.out.low q hq; have := LO.out; omega))).to_below (fun _ h => h) (Nat.le_refl _)) _⟩
 have hi8 : T8.hi = true := hr8.hi.trans rfl
 have l8 : T8.H.ats.length = 0 := H8.out.len0.2 J8.out
 have GL : Aside0 (w.heap.size ≤ g) := ⟨Nat.le_trans LO.out H8.out.lg⟩
 have L8 := asd (And.intro hi8 l8)
 clear h8 hr8 hc8 RC H7 HB7 rj J7 K7 P7 l8 hi8
 go_wp2_with fail
 refine (parcloselaw19_num.calls _ _ _ rfl).mono ?_
 rintro e w9 ⟨rfl, hd⟩
 have H9 := asd (H8.out.below hd.below)
 have Z9 := asd (blk_below Z8.out hd.below)
 have HB9 := asd (below_step HB8.out hd.below)
 have hz0 := (blk_cell Z9.out 0).trans rfl
 have LC := asd (tlen_calls H9.out)
 rw [L8.out.2] at LC
 have HC := asd (thigh_calls H9.out)
 rw [L8.out.1] at HC
 have FA := asd (tfall_yes H9.out L8.out.1 L8.out.2)
 clear hd H8 Z8 HB8
 go_wp2_with (first | (go_at_call 53; refine LC.out.mono ?_; rintro e wl ⟨rfl, rfl⟩) | (go_at_call 44; refine HC.out.mono ?_; rintro e wh ⟨rfl, rfl⟩) | (go_at_call 41; refine FA.out.mono ?_; rintro e wf ⟨rfl, rfl, _⟩))
 go_ret
 exact ⟨rfl, HB9.out.setCell GL.out _⟩
end Go.Proofs.Ytjekfipaadbbbaa.Fn
namespace Go.Proofs.Ytjekfipaadbbbaa.Fn
open Go.RowKit Go.Proofs.YtjekfipaadbbbaaW.PrintWords Go.Proofs.YtjekfipaadbbbaaW.PrintLast Go.Proofs.YtjekfipaadbbbaaW.PrintMore
set_option linter.unusedVariables false
set_option linter.unusedSimpArgs false
theorem info45 : (Try.prog.info? 45).map (fun i => (i.zero, i.size, i.bytes)) = some (some (.agg #[.bool false, .int .i64 0, .int .i64 0, .int .i64 0, .int .i64 0, .int .i64 0]), 6, 48) := by kernel_rfl
section
variable (A : Option Addr) (c : Nat) (l : List S44)
set_option maxHeartbeats 8000000 in
set_option maxRecDepth 100000 in
theorem tnew_none (w : World) (h : Kd.C k44 w A l.length l) (hb : ¬ (l.length ≤ 6 ∧ l.all rtC = true)) : Calls Try.prog 79 #[.slice A l.length c] w fun e w' => e = .returned (.pointer none) ∧ Below w.heap.size w w' := by
 have HC := asd h
 by_cases h6 : l.length ≤ 6
 ·have ha : l.all rtC = false := by
   cases q : l.all rtC with
   | false => rfl
   | true => exact absurd ⟨h6, q⟩ hb
  have HA := asd ha
  have d6 : decide (6 < (l.length : Int)) = false := decide_eq_false (by omega)
  have d7 : decide ((l.length : Int) > 6) = false := decide_eq_false (by omega)
  have HN := asd h6
  clear h hb h6 ha
  go_enter Try.func79, Try.ntmps79
  go_wp2_with fail
  refine (tcontains_calls A c l _ HC.out (by have := HN.out; omega)).mono ?_
  rintro e w1 ⟨rfl, hb⟩
  rw [HA.out]
  have HB := asd hb
  clear hb
  go_wp2
  go_ret
  exact ⟨rfl, HB.out⟩
 ·have d6 : decide (6 < (l.length : Int)) = true := decide_eq_true (by omega)
  have d7 : decide ((l.length : Int) > 6) = true := decide_eq_true (by omega)
  clear h hb h6
  go_enter Try.func79, Try.ntmps79
  go_wp2
  go_ret
  exact ⟨rfl, Below.refl _ _⟩
def TMade (w : World) (l : List S44) (e : Ending) (w' : World) : Prop := if l.length ≤ 6 ∧ l.all rtC = true then ∃ (base g : Nat) (T : TD), e = .returned (.pointer (some ⟨g, 0, none⟩)) ∧ TabOK w' base g T ∧ T.sl = l.map (fun x => (x, none)) ∧ T.hi = false ∧ (∀ i, T.dm i = T.hi) ∧ w.heap.size ≤ base else e = .returned (.pointer none)
set_option maxHeartbeats 8000000 in
set_option maxRecDepth 100000 in
theorem town_calls (w : World) (h : Kd.C k44 w A l.length l) (hn : l.length * 48 ≤ 140737488351232) : Calls Try.prog 34 #[.slice A l.length c] w fun e w' => TMade w l e w' ∧ Below w.heap.size w w' := by
 have hu44 := Try.underlying44
 have hu45 := Try.underlying45
 have HC := asd h
 have HN := asd hn
 clear h hn
 go_enter Try.func34, Try.ntmps34
 go_wp2
 go_loopw [3, 4] (fun v3 v4 wr => ∃ (x : Int) (ys : List S44), v4 = .int .i64 x ∧ Aside0 (0 ≤ x ∧ x ≤ l.length ∧ ys = l.take x.toNat) ∧ Aside0 (k44.R 45 wr w.heap.size (fun _ => True) v3 ys) ∧ Aside0 (Below w.heap.size w wr)) (fun _ v _ => l.length - (intOf v).toNat)
 case atStart => exact ⟨0, [], rfl, ⟨by omega, by omega, rfl⟩, ⟨Kd.R_nil _ _ _ _ _⟩, ⟨Below.refl _ _⟩⟩
 case round =>
  obtain ⟨x, ys, rfl, HX, HR, HB⟩ := hrel
  have h0 : 0 ≤ x := HX.out.1
  have h9 : x ≤ 2932031007400 := by have := HX.out.2.1; have := HN.out; omega
  obtain ⟨A', c', rfl⟩ := Kd.R_slice HR.out
  by_cases hlt : x < (l.length : Int)
  ·have p1 : (0 ≤ x) = True := eq_true h0
   have q1 : (x < (l.length : Int)) = True := eq_true hlt
   have LY : Aside0 ((ys.length + 1) * 48 ≤ 140737488355328) := ⟨by rw [HX.out.2.2, List.length_take]; have := HN.out; omega⟩
   have NXT : Aside0 (ys ++ [rd_T44 l x] = l.take (x + 1).toNat) := ⟨by rw [HX.out.2.2]; exact take_one l z44 x h0 hlt⟩
   obtain ⟨ad, rfl, y0, y1, y2, y3, y4, y5⟩ := at_T44 (Kd.C_below HC.out HB.out) x h0 hlt
   go_wp2_with (first | (at_builtin; refine Kd.R_append k44 (w0 := w) w.heap.size rfl (.tmp 11) (.tmp 16) 110 45 (.agg #[.bool false, .int .i64 0, .int .i64 0, .int .i64 0, .int .i64 0, .int .i64 0]) 48 rfl Try.underlying110 info45 rfl (by decide) (by omega) (.slice A' ys.length c') ys (rd_T44 l x) [.bool (rd_T44 l x).f0, .int .i64 (rd_T44 l x).f1, .int .i64 (rd_T44 l x).f2, .int .i64 (rd_T44 l x).f3, .int .i64 (rd_T44 l x).f4, .int .i64 (rd_T44 l x).f5] (fun _ => True) (fun _ => False) rfl rfl (k44_mkM _ _ _ _) (fun _ hk => hk.elim) (fun _ _ => trivial) HR.out HB.out (below_size HB.out) (by have := LY.out; omega) ?_; intro v1 w1 ho hb hg hat; have HR1 := asd ho; have HB1 := asd hb; clear ho hb hg hat))
   go_roundw
   case rel => exact ⟨x + 1, _, rfl, ⟨by omega, by omega, NXT.out⟩, HR1, HB1⟩
   case measure => simp [intOf]; omega
  ·have hq : decide (x < (l.length : Int)) = false := decide_eq_false hlt
   have e : ys = l := by have h1 := HX.out; rw [List.take_of_length_le (by omega)] at h1; exact h1.2.2
   subst e
   clear hlt HX h0 h9
   have HC2 := asd (Kd.R_reads' HR.out).2.2
   by_cases hq : ys.length ≤ 6 ∧ ys.all rtC = true
   ·have HQ := asd hq
    clear hq
    go_wp2_with fail
    refine (tnew_calls A' c' ys _ HC2.out HQ.out.1 HQ.out.2).mono ?_
    rintro e w2 ⟨base, g, T, rfl, h2, hsl, hhi, hdm, hlo, hb⟩
    have H2 := asd (And.intro h2 (And.intro hsl (And.intro hhi (And.intro hdm hlo))))
    have HB2 := asd (below_step HB.out hb)
    have HL := asd (below_size HB.out)
    clear h2 hsl hhi hdm hlo hb
    go_wp2
    go_ret
    refine ⟨?_, HB2.out⟩
    unfold TMade
    rw [if_pos HQ.out]
    exact ⟨base, g, T, rfl, H2.out.1, H2.out.2.1, H2.out.2.2.1, H2.out.2.2.2.1, Nat.le_trans HL.out H2.out.2.2.2.2⟩
   ·have HQ := asd hq
    clear hq
    go_wp2_with fail
    refine (tnew_none A' c' ys _ HC2.out HQ.out).mono ?_
    rintro e w2 ⟨rfl, hb⟩
    have HB2 := asd (below_step HB.out hb)
    clear hb
    go_wp2
    go_ret
    refine ⟨?_, HB2.out⟩
    unfold TMade
    rw [if_neg HQ.out]
    rfl
end
section
variable {w w1 w2 : World} {base g : Nat} {T : TD}
set_option maxHeartbeats 8000000 in
set_option maxRecDepth 100000 in
theorem missed1_calls (h : TabA w base g T) (k b : Nat) (hk : k < T.sl.length) (hb : T.pt k = some b) (bx : Nat) (now : Int) (hc : w.heap[bx]? = some (.cells #[.int .i64 now] 3 (0, 0))) : Calls Try.prog 88 #[.pointer (some ⟨T.gs, k * 7, none⟩), .pointer (some ⟨bx, 0, none⟩)] w fun e w' => e = .returned (.bool (decide ((T.jb k).arr + (T.tk k).f2 ≤ now))) ∧ Below w.heap.size w w' := by
 have hx := h.ptc hk
 rw [hb] at hx
 have hx6 : w.cell? ⟨T.gs, k * 7 + 6, none⟩ = some (.pointer (some ⟨b, 0, none⟩)) := hx
 have hx2 : w.cell? ⟨T.gs, k * 7 + 2, none⟩ = some (.int .i64 (T.tk k).f2) := (h.cell hk (by omega : 2 < 7)).trans rfl
 have hy1 := (h.jbc hk hb).1
 have hz0 := (blk_cell hc 0).trans rfl
 have hbd := (h.job k b hk hb).2.1.arr
 have hti := h.tie hk
 have hu := Try.underlying131
 have hu2 := Try.underlying45
 have hu3 := Try.underlying69
 generalize T.tk k = x at hx2 hti ⊢
 generalize T.jb k = j at hy1 hbd ⊢
 have wr : wrap64 (j.arr + x.f2) = j.arr + x.f2 := by unfold wrap64; omega
 clear h hk hb hx hbd hti hc
 go_enter Try.func88, Try.ntmps88
 go_wp2
 go_region
 go_wp2
 go_ret
 exact ⟨by first | rfl | (show Ending.returned (.bool (decide (wrap64 _ ≤ _))) = _; rw [wr]), by first | exact Below.refl _ _ | exact below_drew1 (Below.refl _ _) | exact below_drewN1 _ _⟩
set_option maxHeartbeats 8000000 in
set_option maxRecDepth 100000 in
theorem teachMissed (h : TabOK w base g T) (bx : Nat) (now : Int) (hbx : w.heap[bx]? = some (.cells #[.int .i64 now] 3 (0, 0))) (hbs : ¬ T.S g bx) : Calls Try.prog 85 #[.pointer (some ⟨g, 0, none⟩), .func (.func 88) #[] #[.pointer (some ⟨bx, 0, none⟩)]] w fun e w' => (∃ A' c', e = .returned (.slice A' (whoP T (fun i j => decide (j.arr + (T.tk i).f2 ≤ now)) T.sl.length).length c') ∧ (Kd.int .i64).R 3 w' w.heap.size (fun _ => True) (.slice A' (whoP T (fun i j => decide (j.arr + (T.tk i).f2 ≤ now)) T.sl.length).length c') (whoP T (fun i j => decide (j.arr + (T.tk i).f2 ≤ now)) T.sl.length)) ∧ TAfter0 w w' base g T (goneP T (fun i j => decide (j.arr + (T.tk i).f2 ≤ now))) T.hi := by
 have hu := Try.underlying93
 have H := asd h
 have HBX := asd (And.intro hbx hbs)
 clear hbx hbs
 have hx0 := (blk_cell h.blk 0).trans rfl
 have N6 := asd h.n6
 have SLT : Aside0 (∀ q, T.S g q → q < w.heap.size) := ⟨h.lt⟩
 generalize hn : T.sl.length = n at hx0 N6 ⊢
 have HN := asd hn
 have n6 : (n : Int) ≤ 6 := by have := N6.out; omega
 clear h hn
 go_enter Try.func85, Try.ntmps85
 go_wp2
 go_loopw [5, 13] (fun v5 v13 wr => ∃ (i : Nat) (A' : Option Addr) (c' : Nat) (T' : TD), v13 = .int .i64 i ∧ v5 = .slice A' (whoP T (fun i j => decide (j.arr + (T.tk i).f2 ≤ now)) i).length c' ∧ Aside0 (i ≤ n) ∧ Aside0 (TabOK wr base g T' ∧ TRel T T' (fun m => if m < i then goneP T (fun i j => decide (j.arr + (T.tk i).f2 ≤ now)) m else T.js m) T.hi ∧ Chg (T.S g) w wr ∧ ∀ q, T'.S g q ∨ T'.oS q → T.S g q ∨ T.oS q) ∧ Aside0 ((Kd.int .i64).R 3 wr w.heap.size (fun _ => True) (.slice A' (whoP T (fun i j => decide (j.arr + (T.tk i).f2 ≤ now)) i).length c') (whoP T (fun i j => decide (j.arr + (T.tk i).f2 ≤ now)) i))) (fun _ v _ => n - (intOf v).toNat)
 case atStart => exact ⟨0, none, 0, T, rfl, rfl, ⟨by omega⟩, ⟨H.out, ⟨rfl, fun _ => rfl, fun _ => by simp, rfl, fun _ => .inl rfl⟩, Chg.refl _ _, fun _ q => q⟩, ⟨Kd.R_nil _ _ _ _ _⟩⟩
 case round =>
  obtain ⟨i, A', c', T', rfl, rfl, HI, HT, HR⟩ := hrel
  have i99 : (i : Int) ≤ 6 := by have := HI.out; omega
  by_cases hi : i < n
  ·have d0 : decide ((i : Int) < (n : Int)) = true := decide_eq_true (by omega)
   have d1 : decide (i < n) = true := decide_eq_true hi
   have HII := asd hi
   have LEN : Aside0 ((whoP T (fun i j => decide (j.arr + (T.tk i).f2 ≤ now)) i).length ≤ i) := ⟨whoP_len T _ i⟩
   have JS : Aside0 (T'.js i = T.js i) := ⟨by rw [HT.out.2.1.js]; simp⟩
   clear hi
   cases hj : T.js i with
   | none =>
    have BC := asd (tbusy_none HT.out.1 (i : Int) (.inr (by rw [Int.toNat_natCast, JS.out]; exact hj)))
    have PK : Aside0 (whoP T (fun i j => decide (j.arr + (T.tk i).f2 ≤ now)) (i + 1) = whoP T (fun i j => decide (j.arr + (T.tk i).f2 ≤ now)) i) := ⟨whoP_no T _ i (by unfold pickP; rw [hj])⟩
    have GJ : Aside0 (goneP T (fun i j => decide (j.arr + (T.tk i).f2 ≤ now)) i = T.js i) := ⟨by unfold goneP; rw [hj]⟩
    clear hj
    go_wp2_with (first | (go_at_call 87; refine BC.out.mono ?_; rintro e w1 ⟨rfl, rfl⟩))
    go_roundw
    case rel => exact ⟨i + 1, A', c', T', by go_num, by rw [PK.out], ⟨by have := HII.out; omega⟩, ⟨HT.out.1, HT.out.2.1.step (fun m => goneStep T _ i m (GJ.out)), HT.out.2.2⟩, ⟨by rw [PK.out]; exact HR.out⟩⟩
    case measure => have := HII.out; simp [intOf]; omega
   | some j =>
    obtain ⟨hk', hjb, b, hb⟩ := TD.js_some (JS.out.trans hj)
    have BC := asd (tbusy_some HT.out.1 i b hk' hb)
    have JB := asd hjb
    have HB := asd (And.intro hk' hb)
    have HJ := asd hj
    have SUBS : Aside0 (∀ q, T'.S g q → T.S g q) := ⟨fun q hq => by
     rcases HT.out.2.2.2 q (.inl hq) with h1 | h1
     ·exact h1
     ·exfalso
      -- a row of ops is no block of the table's own
      obtain ⟨t, cells, ht, hc⟩ := HT.out.1.S_typed q hq
      obtain ⟨ii, hii, hpp, hqq⟩ := h1
      cases hbb : T.pt ii with
      | none => exact hpp hbb
      | some b' =>
       obtain ⟨cells', hc'⟩ := Kd.R_typed (H.out.job ii b' hii hbb).2.2.2 q hqq
       have h76 : ¬ T.S g q := fun hs => by
        obtain ⟨t2, cells2, ht2, hc2⟩ := H.out.S_typed q hs
        rw [hc'] at hc2
        injection hc2 with hc2
        injection hc2 with _ h2
        subst h2
        exact absurd ht2 (by decide)
       have h9 := HT.out.2.2.1.block q (blk_lt hc') h76
       rw [hc, hc'] at h9
       injection h9 with h9
       injection h9 with _ h2
       subst h2
       exact absurd ht (by decide)⟩
    have CC := asd (missed1_calls HT.out.1.toTabA i b hk' hb bx now (blk_chg HBX.out.1 HT.out.2.2.1 HBX.out.2))
    rw [← hjb, HT.out.2.1.tk] at CC
    clear hk' hjb hb hj
    cases hp : (decide (j.arr + (T.tk i).f2 ≤ now)) with
    | false =>
     rw [hp] at CC
     have PK : Aside0 (whoP T (fun i j => decide (j.arr + (T.tk i).f2 ≤ now)) (i + 1) = whoP T (fun i j => decide (j.arr + (T.tk i).f2 ≤ now)) i) := ⟨whoP_no T _ i (by unfold pickP; rw [HJ.out]; exact hp)⟩
     have GJ : Aside0 (goneP T (fun i j => decide (j.arr + (T.tk i).f2 ≤ now)) i = T.js i) := ⟨by unfold goneP; rw [HJ.out]; show (if (decide (j.arr + (T.tk i).f2 ≤ now)) = true then none else some j) = some j; rw [hp]; rfl⟩
     clear hp
     go_wp2_with (first | (go_at_call 87; refine BC.out.mono ?_; rintro e w1 ⟨rfl, rfl⟩) | (go_at_call 88; refine CC.out.mono ?_; rintro e w2 ⟨rfl, hb2⟩; have H2 := asd (HT.out.1.below hb2); have HR2 := asd (Kd.R_below HR.out hb2); have HC2 := asd (HT.out.2.2.1.below hb2); clear hb2))
     go_roundw
     case rel => exact ⟨i + 1, A', c', T', by go_num, by rw [PK.out], ⟨by have := HII.out; omega⟩, ⟨H2.out, HT.out.2.1.step (fun m => goneStep T _ i m (GJ.out)), HC2.out, HT.out.2.2.2⟩, ⟨by rw [PK.out]; exact HR2.out⟩⟩
     case measure => have := HII.out; simp [intOf]; omega
    | true =>
     rw [hp] at CC
     have PK : Aside0 (whoP T (fun i j => decide (j.arr + (T.tk i).f2 ≤ now)) (i + 1) = whoP T (fun i j => decide (j.arr + (T.tk i).f2 ≤ now)) i ++ [(i : Int)]) := ⟨whoP_yes T _ i (by unfold pickP; rw [HJ.out]; exact hp)⟩
     have GJ : Aside0 (goneP T (fun i j => decide (j.arr + (T.tk i).f2 ≤ now)) i = none) := ⟨by unfold goneP; rw [HJ.out]; show (if (decide (j.arr + (T.tk i).f2 ≤ now)) = true then none else some j) = none; rw [hp]; rfl⟩
     clear hp
     go_wp2_with (first | (go_at_call 87; refine BC.out.mono ?_; rintro e w1 ⟨rfl, rfl⟩) | (go_at_call 88; refine CC.out.mono ?_; rintro e w2 ⟨rfl, hb2⟩; have H2 := asd (HT.out.1.below hb2); have HR2 := asd (Kd.R_below HR.out hb2); have HC2 := asd (HT.out.2.2.1.below hb2); clear hb2) | (at_builtin; refine Kd.R_append (Kd.int .i64) (w0 := w2) w.heap.size rfl (.tmp 26) (.tmp 28) 36 3 (.int .i64 0) 8 rfl Try.underlying36 info3 rfl (by decide) (by omega) (.slice A' (whoP T (fun i j => decide (j.arr + (T.tk i).f2 ≤ now)) i).length c') (whoP T (fun i j => decide (j.arr + (T.tk i).f2 ≤ now)) i) (i : Int) [.int .i64 (i : Int)] (fun _ => True) (fun _ => False) rfl rfl rfl (fun _ hk => hk.elim) (fun _ _ => trivial) HR2.out (Below.refl _ _) (by have := HC2.out.size; omega) (by have := LEN.out; have := HII.out; have := N6.out; omega) ?_; intro v3 w3 ho hb3 hg3 hat3; obtain ⟨A3, c3, rfl⟩ := Kd.R_slice ho; have HR3 := asd ho; have HB3 := asd hb3; clear ho hb3 hg3 hat3))
     have H3 := asd (H2.out.chgO (Chg.of_belowB HB3.out) (fun q hq hs => by
      rcases HT.out.2.2.2 q (.inl hq) with h1 | h1
      ·have := SLT.out q h1; omega
      ·have := H.out.toTabA.oS_lt q h1; omega) (fun q hq hs => by
      rcases HT.out.2.2.2 q (.inr hq) with h1 | h1
      ·have := SLT.out q h1; omega
      ·have := H.out.toTabA.oS_lt q h1; omega))
     have HC3 := asd (HC2.out.then_ (Chg.of_belowB HB3.out) (fun q hq => .inr hq))
     refine (tgone0_calls H3.out i b HB.out.1 HB.out.2).mono ?_
     rintro e w4 ⟨rfl, T2, h4, hr4, hc4, hs4⟩
     have H4 := asd h4
     have HR4 := asd (R_chgB HR3.out hc4 (fun q hq => by
      rcases HT.out.2.2.2 q (.inl hq) with h1 | h1
      ·exact SLT.out q h1
      ·exact H.out.toTabA.oS_lt q h1))
     have HC4 : Aside0 (Chg (T.S g) w w4) := ⟨HC3.out.then_ hc4 (fun q hq => .inl (SUBS.out q hq))⟩
     have RE4 : Aside0 (TRel T T2 (fun m => if m < i + 1 then goneP T (fun i j => decide (j.arr + (T.tk i).f2 ≤ now)) m else T.js m) T.hi) := ⟨⟨hr4.len.trans HT.out.2.1.len, fun m => (hr4.tk m).trans (HT.out.2.1.tk m), fun m => by
      rw [hr4.js m]
      unfold goneJ
      rw [HT.out.2.1.js m]
      by_cases e : m = i
      ·subst e; rw [if_pos rfl, if_pos (by omega), GJ.out]
      ·rw [if_neg e]
       by_cases e2 : m < i
       ·rw [if_pos e2, if_pos (by omega)]
       ·rw [if_neg e2, if_neg (by omega)], hr4.hi.trans HT.out.2.1.hi, fun m => by
      rcases hr4.dm m with q | q
      ·rcases HT.out.2.1.dm m with q2 | q2
       ·exact .inl (q.trans q2)
       ·exact .inr (q.trans q2)
      ·exact .inr (q.trans HT.out.2.1.hi)⟩⟩
     have HS4 : Aside0 (∀ q, T2.S g q ∨ T2.oS q → T.S g q ∨ T.oS q) := ⟨fun q hq => HT.out.2.2.2 q (hs4 q hq)⟩
     clear h4 hr4 hc4 hs4
     go_wp2
     go_roundw
     case rel => exact ⟨i + 1, A3, c3, T2, by go_num, by rw [PK.out, List.length_append]; rfl, ⟨by have := HII.out; omega⟩, ⟨H4.out, RE4.out, HC4.out, HS4.out⟩, ⟨by rw [PK.out]; have h := HR4.out; rw [List.length_append] at h ⊢; exact h⟩⟩
     case measure => have := HII.out; simp [intOf]; omega
  ·have d0 : decide ((i : Int) < (n : Int)) = false := decide_eq_false (by omega)
   have d1 : decide (i < n) = false := decide_eq_false hi
   obtain rfl : i = n := by have := HI.out; omega
   have RE : Aside0 (TRel T T' (goneP T (fun i j => decide (j.arr + (T.tk i).f2 ≤ now))) T.hi) := ⟨⟨HT.out.2.1.len, HT.out.2.1.tk, fun m => by
    rw [HT.out.2.1.js m]
    by_cases e : m < i
    ·rw [if_pos e]
    ·rw [if_neg e]
     have h1 : T.js m = none := TD.js_none.2 (T.pt_ge (by rw [HN.out]; omega))
     unfold goneP; rw [h1], HT.out.2.1.hi, HT.out.2.1.dm⟩⟩
   clear hi
   go_wp2
   go_ret
   exact ⟨⟨A', c', rfl, HR.out⟩, T', HT.out.1, RE.out, HT.out.2.2⟩
set_option maxHeartbeats 8000000 in
set_option maxRecDepth 100000 in
theorem teachClear (h : TabOK w base g T) : Calls Try.prog 85 #[.pointer (some ⟨g, 0, none⟩), .func (.func 100) #[] #[]] w fun e w' => (∃ A' c', e = .returned (.slice A' (whoP T (fun _ _ => true) T.sl.length).length c') ∧ (Kd.int .i64).R 3 w' w.heap.size (fun _ => True) (.slice A' (whoP T (fun _ _ => true) T.sl.length).length c') (whoP T (fun _ _ => true) T.sl.length)) ∧ TAfter0 w w' base g T (goneP T (fun _ _ => true)) T.hi := by
 have hu := Try.underlying93
 have H := asd h
 have hx0 := (blk_cell h.blk 0).trans rfl
 have N6 := asd h.n6
 have SLT : Aside0 (∀ q, T.S g q → q < w.heap.size) := ⟨h.lt⟩
 generalize hn : T.sl.length = n at hx0 N6 ⊢
 have HN := asd hn
 have n6 : (n : Int) ≤ 6 := by have := N6.out; omega
 clear h hn
 go_enter Try.func85, Try.ntmps85
 go_wp2
 go_loopw [5, 13] (fun v5 v13 wr => ∃ (i : Nat) (A' : Option Addr) (c' : Nat) (T' : TD), v13 = .int .i64 i ∧ v5 = .slice A' (whoP T (fun _ _ => true) i).length c' ∧ Aside0 (i ≤ n) ∧ Aside0 (TabOK wr base g T' ∧ TRel T T' (fun m => if m < i then goneP T (fun _ _ => true) m else T.js m) T.hi ∧ Chg (T.S g) w wr ∧ ∀ q, T'.S g q ∨ T'.oS q → T.S g q ∨ T.oS q) ∧ Aside0 ((Kd.int .i64).R 3 wr w.heap.size (fun _ => True) (.slice A' (whoP T (fun _ _ => true) i).length c') (whoP T (fun _ _ => true) i))) (fun _ v _ => n - (intOf v).toNat)
 case atStart => exact ⟨0, none, 0, T, rfl, rfl, ⟨by omega⟩, ⟨H.out, ⟨rfl, fun _ => rfl, fun _ => by simp, rfl, fun _ => .inl rfl⟩, Chg.refl _ _, fun _ q => q⟩, ⟨Kd.R_nil _ _ _ _ _⟩⟩
 case round =>
  obtain ⟨i, A', c', T', rfl, rfl, HI, HT, HR⟩ := hrel
  have i99 : (i : Int) ≤ 6 := by have := HI.out; omega
  by_cases hi : i < n
  ·have d0 : decide ((i : Int) < (n : Int)) = true := decide_eq_true (by omega)
   have d1 : decide (i < n) = true := decide_eq_true hi
   have HII := asd hi
   have LEN : Aside0 ((whoP T (fun _ _ => true) i).length ≤ i) := ⟨whoP_len T _ i⟩
   have JS : Aside0 (T'.js i = T.js i) := ⟨by rw [HT.out.2.1.js]; simp⟩
   clear hi
   cases hj : T.js i with
   | none =>
    have BC := asd (tbusy_none HT.out.1 (i : Int) (.inr (by rw [Int.toNat_natCast, JS.out]; exact hj)))
    have PK : Aside0 (whoP T (fun _ _ => true) (i + 1) = whoP T (fun _ _ => true) i) := ⟨whoP_no T _ i (by unfold pickP; rw [hj])⟩
    have GJ : Aside0 (goneP T (fun _ _ => true) i = T.js i) := ⟨by unfold goneP; rw [hj]⟩
    clear hj
    go_wp2_with (first | (go_at_call 87; refine BC.out.mono ?_; rintro e w1 ⟨rfl, rfl⟩))
    go_roundw
    case rel => exact ⟨i + 1, A', c', T', by go_num, by rw [PK.out], ⟨by have := HII.out; omega⟩, ⟨HT.out.1, HT.out.2.1.step (fun m => goneStep T _ i m (GJ.out)), HT.out.2.2⟩, ⟨by rw [PK.out]; exact HR.out⟩⟩
    case measure => have := HII.out; simp [intOf]; omega
   | some j =>
    obtain ⟨hk', hjb, b, hb⟩ := TD.js_some (JS.out.trans hj)
    have BC := asd (tbusy_some HT.out.1 i b hk' hb)
    have JB := asd hjb
    have HB := asd (And.intro hk' hb)
    have HJ := asd hj
    have SUBS : Aside0 (∀ q, T'.S g q → T.S g q) := ⟨fun q hq => by
     rcases HT.out.2.2.2 q (.inl hq) with h1 | h1
     ·exact h1
     ·exfalso
      -- a row of ops is no block of the table's own
      obtain ⟨t, cells, ht, hc⟩ := HT.out.1.S_typed q hq
      obtain ⟨ii, hii, hpp, hqq⟩ := h1
      cases hbb : T.pt ii with
      | none => exact hpp hbb
      | some b' =>
       obtain ⟨cells', hc'⟩ := Kd.R_typed (H.out.job ii b' hii hbb).2.2.2 q hqq
       have h76 : ¬ T.S g q := fun hs => by
        obtain ⟨t2, cells2, ht2, hc2⟩ := H.out.S_typed q hs
        rw [hc'] at hc2
        injection hc2 with hc2
        injection hc2 with _ h2
        subst h2
        exact absurd ht2 (by decide)
       have h9 := HT.out.2.2.1.block q (blk_lt hc') h76
       rw [hc, hc'] at h9
       injection h9 with h9
       injection h9 with _ h2
       subst h2
       exact absurd ht (by decide)⟩
    have CC := asd (clear1_calls (w := wr) (.pointer (some ⟨T'.gs, i * 7, none⟩)))
    clear hk' hjb hb hj
    cases hp : (true) with
    | false => cases hp
    | true =>
     have PK : Aside0 (whoP T (fun _ _ => true) (i + 1) = whoP T (fun _ _ => true) i ++ [(i : Int)]) := ⟨whoP_yes T _ i (by unfold pickP; rw [HJ.out])⟩
     have GJ : Aside0 (goneP T (fun _ _ => true) i = none) := ⟨by unfold goneP; rw [HJ.out]; show (if (true) = true then none else some j) = none; first | rfl | (rw [hp]; rfl)⟩
     clear hp
     go_wp2_with (first | (go_at_call 87; refine BC.out.mono ?_; rintro e w1 ⟨rfl, rfl⟩) | (go_at_call 100; refine CC.out.mono ?_; rintro e w2 ⟨rfl, hb2⟩; have H2 := asd (HT.out.1.below hb2); have HR2 := asd (Kd.R_below HR.out hb2); have HC2 := asd (HT.out.2.2.1.below hb2); clear hb2) | (at_builtin; refine Kd.R_append (Kd.int .i64) (w0 := w2) w.heap.size rfl (.tmp 26) (.tmp 28) 36 3 (.int .i64 0) 8 rfl Try.underlying36 info3 rfl (by decide) (by omega) (.slice A' (whoP T (fun _ _ => true) i).length c') (whoP T (fun _ _ => true) i) (i : Int) [.int .i64 (i : Int)] (fun _ => True) (fun _ => False) rfl rfl rfl (fun _ hk => hk.elim) (fun _ _ => trivial) HR2.out (Below.refl _ _) (by have := HC2.out.size; omega) (by have := LEN.out; have := HII.out; have := N6.out; omega) ?_; intro v3 w3 ho hb3 hg3 hat3; obtain ⟨A3, c3, rfl⟩ := Kd.R_slice ho; have HR3 := asd ho; have HB3 := asd hb3; clear ho hb3 hg3 hat3))
     have H3 := asd (H2.out.chgO (Chg.of_belowB HB3.out) (fun q hq hs => by
      rcases HT.out.2.2.2 q (.inl hq) with h1 | h1
      ·have := SLT.out q h1; omega
      ·have := H.out.toTabA.oS_lt q h1; omega) (fun q hq hs => by
      rcases HT.out.2.2.2 q (.inr hq) with h1 | h1
      ·have := SLT.out q h1; omega
      ·have := H.out.toTabA.oS_lt q h1; omega))
     have HC3 := asd (HC2.out.then_ (Chg.of_belowB HB3.out) (fun q hq => .inr hq))
     refine (tgone0_calls H3.out i b HB.out.1 HB.out.2).mono ?_
     rintro e w4 ⟨rfl, T2, h4, hr4, hc4, hs4⟩
     have H4 := asd h4
     have HR4 := asd (R_chgB HR3.out hc4 (fun q hq => by
      rcases HT.out.2.2.2 q (.inl hq) with h1 | h1
      ·exact SLT.out q h1
      ·exact H.out.toTabA.oS_lt q h1))
     have HC4 : Aside0 (Chg (T.S g) w w4) := ⟨HC3.out.then_ hc4 (fun q hq => .inl (SUBS.out q hq))⟩
     have RE4 : Aside0 (TRel T T2 (fun m => if m < i + 1 then goneP T (fun _ _ => true) m else T.js m) T.hi) := ⟨⟨hr4.len.trans HT.out.2.1.len, fun m => (hr4.tk m).trans (HT.out.2.1.tk m), fun m => by
      rw [hr4.js m]
      unfold goneJ
      rw [HT.out.2.1.js m]
      by_cases e : m = i
      ·subst e; rw [if_pos rfl, if_pos (by omega), GJ.out]
      ·rw [if_neg e]
       by_cases e2 : m < i
       ·rw [if_pos e2, if_pos (by omega)]
       ·rw [if_neg e2, if_neg (by omega)], hr4.hi.trans HT.out.2.1.hi, fun m => by
      rcases hr4.dm m with q | q
      ·rcases HT.out.2.1.dm m with q2 | q2
       ·exact .inl (q.trans q2)
       ·exact .inr (q.trans q2)
      ·exact .inr (q.trans HT.out.2.1.hi)⟩⟩
     have HS4 : Aside0 (∀ q, T2.S g q ∨ T2.oS q → T.S g q ∨ T.oS q) := ⟨fun q hq => HT.out.2.2.2 q (hs4 q hq)⟩
     clear h4 hr4 hc4 hs4
     go_wp2
     go_roundw
     case rel => exact ⟨i + 1, A3, c3, T2, by go_num, by rw [PK.out, List.length_append]; rfl, ⟨by have := HII.out; omega⟩, ⟨H4.out, RE4.out, HC4.out, HS4.out⟩, ⟨by rw [PK.out]; have h := HR4.out; rw [List.length_append] at h ⊢; exact h⟩⟩
     case measure => have := HII.out; simp [intOf]; omega
  ·have d0 : decide ((i : Int) < (n : Int)) = false := decide_eq_false (by omega)
   have d1 : decide (i < n) = false := decide_eq_false hi
   obtain rfl : i = n := by have := HI.out; omega
   have RE : Aside0 (TRel T T' (goneP T (fun _ _ => true)) T.hi) := ⟨⟨HT.out.2.1.len, HT.out.2.1.tk, fun m => by
    rw [HT.out.2.1.js m]
    by_cases e : m < i
    ·rw [if_pos e]
    ·rw [if_neg e]
     have h1 : T.js m = none := TD.js_none.2 (T.pt_ge (by rw [HN.out]; omega))
     unfold goneP; rw [h1], HT.out.2.1.hi, HT.out.2.1.dm⟩⟩
   clear hi
   go_wp2
   go_ret
   exact ⟨⟨A', c', rfl, HR.out⟩, T', HT.out.1, RE.out, HT.out.2.2⟩
end
end Go.Proofs.Ytjekfipaadbbbaa.Fn
namespace Go.Proofs.Ytjekfipaadbbbaa.Fn
open Go.RowKit Go.Proofs.YtjekfipaadbbbaaW.PrintWords Go.Proofs.YtjekfipaadbbbaaW.PrintLast Go.Proofs.YtjekfipaadbbbaaW.PrintMore
set_option linter.unusedVariables false
set_option linter.unusedSimpArgs false
section
variable {w w1 w2 : World} {base g : Nat} {T : TD}
set_option maxHeartbeats 8000000 in
set_option maxRecDepth 100000 in
theorem tmissed_calls (h : TabOK w base g T) (now : Int) : Calls Try.prog 42 #[.pointer (some ⟨g, 0, none⟩), .int .i64 now] w fun e w' => (∃ A' c', e = .returned (.slice A' (whoP T (fun i j => decide (j.arr + (T.tk i).f2 ≤ now)) T.sl.length).length c') ∧ (Kd.int .i64).R 3 w' w.heap.size (fun _ => True) (.slice A' (whoP T (fun i j => decide (j.arr + (T.tk i).f2 ≤ now)) T.sl.length).length c') (whoP T (fun i j => decide (j.arr + (T.tk i).f2 ≤ now)) T.sl.length)) ∧ TAfter0 w w' base g T (goneP T (fun i j => decide (j.arr + (T.tk i).f2 ≤ now))) T.hi := by
 have HB1 := asd (below_alloc (Below.refl w.heap.size w) (.cells #[.int .i64 now] 3))
 have H1 := asd (h.below HB1.out)
 have NC := asd (tnone_calls H1.out)
 have EC := asd (teachMissed H1.out w.heap.size now (heap_alloc_new w _) (fun q => Nat.lt_irrefl _ (h.lt _ q)))
 clear h
 go_enter Try.func42, Try.ntmps42
 go_wp2_with (first | (go_at_call 84; refine NC.out.mono ?_; rintro e w1 ⟨rfl, rfl⟩))
 refine EC.out.mono ?_
 rintro e w2 ⟨⟨A', c', rfl, hr⟩, T2, h2, hr2, hc2, hs2⟩
 have FIN := asd (And.intro (Kd.R_lower hr HB1.out.size) (And.intro h2 (And.intro hr2 (And.intro ((Chg.of_below HB1.out (T.S g)).then_ hc2 (fun q hq => .inl hq)) hs2))))
 clear hr h2 hr2 hc2 hs2
 go_wp2
 go_ret
 exact ⟨⟨A', c', rfl, FIN.out.1⟩, T2, FIN.out.2⟩
set_option maxHeartbeats 8000000 in
set_option maxRecDepth 100000 in
theorem tclear_calls (h : TabOK w base g T) : Calls Try.prog 55 #[.pointer (some ⟨g, 0, none⟩)] w fun e w' => e = .returned (.tuple #[]) ∧ ∃ T', TabOK w' base g T' ∧ TRel T T' (fun _ => none) false ∧ Chg (T.S g) w w' ∧ (∀ q, T'.S g q ∨ T'.oS q → T.S g q ∨ T.oS q) ∧ ∀ i, T'.dm i = false := by
 have hu := Try.underlying93
 have NC := asd (tnone_calls h)
 have EC := asd (teachClear h)
 have H := asd h
 clear h
 go_enter Try.func55, Try.ntmps55
 go_wp2_with (first | (go_at_call 84; refine NC.out.mono ?_; rintro e w1 ⟨rfl, rfl⟩))
 refine EC.out.mono ?_
 rintro e w2 ⟨⟨A', c', rfl, _⟩, T2, h2, hr2, hc2, hs2⟩
 have J2 : ∀ i, T2.js i = none := fun i => by
  rw [hr2.js i]
  unfold goneP
  cases T.js i <;> simp
 have hx2 := (blk_cell h2.blk 2).trans rfl
 have hxf := blk_frozen h2.blk 2
 have FIN : Aside0 (∃ T', TabOK (w2.setCell ⟨g, 2, none⟩ (.bool false)) base g T' ∧ TRel T T' (fun _ => none) false ∧ Chg (T.S g) w (w2.setCell ⟨g, 2, none⟩ (.bool false)) ∧ (∀ q, T'.S g q ∨ T'.oS q → T.S g q ∨ T.oS q) ∧ ∀ i, T'.dm i = false) :=
  ⟨{ T2 with hi := false, dm := fun _ => false }, (h2.setHi false).setDm (fun _ => false) (fun i j hj => by
   have h1 : T2.js i = some j := hj
   rw [J2] at h1; cases h1), ⟨hr2.len, hr2.tk, J2, rfl, fun _ => .inr rfl⟩, hc2.set_ (p := ⟨g, 2, none⟩) (.inl (.inl rfl)) _, hs2, fun _ => rfl⟩
 clear h2 hr2 hc2 hs2 J2
 go_wp2
 go_end0
 exact ⟨rfl, FIN.out⟩
set_option maxHeartbeats 8000000 in
set_option maxRecDepth 100000 in
theorem tget_none (h : TabOK w base g T) (k : Int) (hk : k < 0 ∨ T.js k.toNat = none) : Calls Try.prog 45 #[.pointer (some ⟨g, 0, none⟩), .int .i64 k] w fun e w' => e = .returned (.tuple #[.agg #[.int .i64 0, .int .i64 0, .int .i64 0, .int .i64 0, .slice none 0 0], .bool false]) ∧ Below w.heap.size w w' := by
 have hu := Try.underlying69
 have Z := asd (heap_alloc_new w (.cells #[.int .i64 0, .int .i64 0, .int .i64 0, .int .i64 0, .slice none 0 0] 69))
 have HB := asd (below_alloc (Below.refl w.heap.size w) (.cells #[.int .i64 0, .int .i64 0, .int .i64 0, .int .i64 0, .slice none 0 0] 69))
 have NC := asd (tbusy_none (h.below HB.out) k hk)
 clear h hk
 go_enter Try.func45, Try.ntmps45
 go_wp2_with (first | (go_at_call 87; refine NC.out.mono ?_; rintro e w1 ⟨rfl, rfl⟩))
 refine bodyPost_ret (results_row2 Try.results45 _ _ w.heap.size 69 #[.int .i64 0, .int .i64 0, .int .i64 0, .int .i64 0, .slice none 0 0] (0, 0) _ (.bool false) rfl rfl Z.out Try.underlying69 rfl (by kernel_rfl)) rfl ?_
 exact ⟨rfl, HB.out⟩
set_option maxHeartbeats 8000000 in
set_option maxRecDepth 100000 in
theorem tget_some (h : TabOK w base g T) (k b : Nat) (hk : k < T.sl.length) (hb : T.pt k = some b) : Calls Try.prog 45 #[.pointer (some ⟨g, 0, none⟩), .int .i64 (k : Int)] w fun e w' => ∃ A c, e = .returned (.tuple #[.agg #[.int .i64 (T.jb k).tsk, .int .i64 (T.jb k).arr, .int .i64 (T.jb k).wrk, .int .i64 (T.jb k).dn, .slice A (T.jb k).ops.length c], .bool true]) ∧ (T.jb k).ops.length ≤ c ∧ Kd.C k76 w' A (T.jb k).ops.length (T.jb k).ops ∧ Below w.heap.size w w' := by
 have hu := Try.underlying69
 have hu131 := Try.underlying131
 have Z := asd (heap_alloc_new w (.cells #[.int .i64 0, .int .i64 0, .int .i64 0, .int .i64 0, .slice none 0 0] 69))
 have HB := asd (below_alloc (Below.refl w.heap.size w) (.cells #[.int .i64 0, .int .i64 0, .int .i64 0, .int .i64 0, .slice none 0 0] 69))
 have H1 := asd (h.below HB.out)
 have BC := asd (tbusy_some H1.out k b hk hb)
 have JOK := asd (h.job k b hk hb).2.1
 obtain ⟨A0, c0, hov⟩ := Kd.R_slice (h.job k b hk hb).2.2.2
 have BZ := (H1.out.job k b hk hb).2.2
 rw [hov] at BZ
 have yp : (w.alloc (.cells #[.int .i64 0, .int .i64 0, .int .i64 0, .int .i64 0, .slice none 0 0] 69)).cell? ⟨T.gs, k * 7 + 6, none⟩ = some (.pointer (some ⟨b, 0, none⟩)) := by have := H1.out.toTabA.ptc hk; rw [hb] at this; exact this
 have y0 := (blk_cell BZ.1 0).trans rfl
 have y1 := (blk_cell BZ.1 1).trans rfl
 have y2 := (blk_cell BZ.1 2).trans rfl
 have y3 := (blk_cell BZ.1 3).trans rfl
 have y4 := (blk_cell BZ.1 4).trans rfl
 have e1 : (w.alloc (.cells #[.int .i64 0, .int .i64 0, .int .i64 0, .int .i64 0, .slice none 0 0] 69)).heap.size = w.heap.size + 1 := by unfold World.alloc; exact Array.size_push ..
 have X7 := heap_alloc_new (w.alloc (.cells #[.int .i64 0, .int .i64 0, .int .i64 0, .int .i64 0, .slice none 0 0] 69)) (.cells #[.int .i64 (T.jb k).tsk, .int .i64 (T.jb k).arr, .int .i64 (T.jb k).wrk, .int .i64 (T.jb k).dn, .slice A0 (T.jb k).ops.length c0] 69)
 rw [e1] at X7
 have X7A := asd X7
 have Z2 := asd (blk_alloc Z.out (.cells #[.int .i64 (T.jb k).tsk, .int .i64 (T.jb k).arr, .int .i64 (T.jb k).wrk, .int .i64 (T.jb k).dn, .slice A0 (T.jb k).ops.length c0] 69))
 have HB2 := asd (below_alloc HB.out (.cells #[.int .i64 (T.jb k).tsk, .int .i64 (T.jb k).arr, .int .i64 (T.jb k).wrk, .int .i64 (T.jb k).dn, .slice A0 (T.jb k).ops.length c0] 69))
 have CC := asd (oclone_calls A0 c0 (T.jb k).ops _ (Kd.C_below (C_ofR BZ.2) (below_alloc (Below.refl _ _) (.cells #[.int .i64 (T.jb k).tsk, .int .i64 (T.jb k).arr, .int .i64 (T.jb k).wrk, .int .i64 (T.jb k).dn, .slice A0 (T.jb k).ops.length c0] 69))) (by have := JOK.out.ops; omega))
 have hx4 := (blk_cell X7 4).trans rfl
 clear h hk hb hov BZ X7
 go_enter Try.func45, Try.ntmps45
 go_wp2_with (first | (go_at_call 87; refine BC.out.mono ?_; rintro e w1 ⟨rfl, rfl⟩))
 refine CC.out.mono ?_
 rintro e w3 ⟨v, rfl, hv, hb3⟩
 obtain ⟨Av, cv, rfl⟩ := Kd.R_slice hv
 have Z3 := asd (blk_below Z2.out hb3)
 have X3 := asd (blk_below X7A.out hb3)
 have HB3 := asd (below_step HB2.out hb3)
 have HV := asd hv
 clear hv hb3 yp y0 y1 y2 y3 y4 hx4 CC
 have y0 := (blk_cell X3.out 0).trans rfl
 have y1 := (blk_cell X3.out 1).trans rfl
 have y2 := (blk_cell X3.out 2).trans rfl
 have y3 := (blk_cell X3.out 3).trans rfl
 have y4 := (blk_cell X3.out 4).trans rfl
 have yf := blk_frozen X3.out 4
 have X4 := asd (blk_put X3.out 4 (.slice Av (T.jb k).ops.length cv) rfl)
 have Z4 := asd (blk_far Z3.out (p := ⟨w.heap.size + 1, 4, none⟩) (Nat.ne_of_lt (Nat.lt_succ_self _)) (.slice Av (T.jb k).ops.length cv))
 have x0 := (blk_cell X4.out 0).trans rfl
 have x1 := (blk_cell X4.out 1).trans rfl
 have x2 := (blk_cell X4.out 2).trans rfl
 have x3 := (blk_cell X4.out 3).trans rfl
 have x4 := (blk_cell X4.out 4).trans rfl
 have r0 := blk_frozen Z4.out 0
 have r1 := blk_frozen Z4.out 1
 have r2 := blk_frozen Z4.out 2
 have r3 := blk_frozen Z4.out 3
 have r4 := blk_frozen Z4.out 4
 have z0 := (blk_cell Z4.out 0).trans rfl
 have z1 := (blk_cell Z4.out 1).trans rfl
 have z2 := (blk_cell Z4.out 2).trans rfl
 have z3 := (blk_cell Z4.out 3).trans rfl
 have z4 := (blk_cell Z4.out 4).trans rfl
 go_wp2
 have F5 := blk_put (blk_put (blk_put (blk_put (blk_put Z4.out 0 (.int .i64 (T.jb k).tsk) rfl) 1 (.int .i64 (T.jb k).arr) rfl) 2 (.int .i64 (T.jb k).wrk) rfl) 3 (.int .i64 (T.jb k).dn) rfl) 4 (.slice Av (T.jb k).ops.length cv) rfl
 refine bodyPost_ret (results_row2 Try.results45 _ _ w.heap.size 69 #[.int .i64 (T.jb k).tsk, .int .i64 (T.jb k).arr, .int .i64 (T.jb k).wrk, .int .i64 (T.jb k).dn, .slice Av (T.jb k).ops.length cv] (0, 0) _ (.bool true) rfl rfl F5 Try.underlying69 rfl (by kernel_rfl)) rfl ?_
 refine ⟨Av, cv, rfl, (Kd.R_reads' HV.out).2.1, ?_, ?_⟩
 ·have CH := (((((Chg.refl (fun q => q = w.heap.size + 1 ∨ q = w.heap.size) w3).set_ (p := ⟨w.heap.size + 1, 4, none⟩) (.inl (.inl rfl)) (.slice Av (T.jb k).ops.length cv)).set_ (p := ⟨w.heap.size, 0, none⟩) (.inl (.inr rfl)) (.int .i64 (T.jb k).tsk)).set_ (p := ⟨w.heap.size, 1, none⟩) (.inl (.inr rfl)) (.int .i64 (T.jb k).arr)).set_ (p := ⟨w.heap.size, 2, none⟩) (.inl (.inr rfl)) (.int .i64 (T.jb k).wrk)).set_ (p := ⟨w.heap.size, 3, none⟩) (.inl (.inr rfl)) (.int .i64 (T.jb k).dn) |>.set_ (p := ⟨w.heap.size, 4, none⟩) (.inl (.inr rfl)) (.slice Av (T.jb k).ops.length cv)
  refine C_ofR (R_chgT rfl HV.out CH (fun q cells hc hs => ?_))
  rcases hs with rfl | rfl
  ·rw [X3.out] at hc; injection hc with hc; injection hc with _ h2; simp at h2
  ·rw [Z3.out] at hc; injection hc with hc; injection hc with _ h2; simp at h2
 ·exact ((((((HB3.out.setCell (Nat.le_succ _) _).setCell (Nat.le_refl _) _).setCell (Nat.le_refl _) _).setCell (Nat.le_refl _) _).setCell (Nat.le_refl _) _).setCell (Nat.le_refl _) _)
end
end Go.Proofs.Ytjekfipaadbbbaa.Fn
