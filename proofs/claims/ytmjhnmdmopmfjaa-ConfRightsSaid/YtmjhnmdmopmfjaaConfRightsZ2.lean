/- Part of the proof of ConfRights: see the last text. (Words laid by the print, as far as they are named here; walks written by a program of this project; plain laws.) -/
import Derived.Test.YtmjhnmdmopmfjaaConfRightsZ1
namespace Go.Proofs.Ytmjhnmdmopmfjaa.Fn
open Go.RowKit Go.Proofs.YtmjhnmdmopmfjaaW.PrintWords Go.Proofs.YtmjhnmdmopmfjaaW.PrintLast Go.Proofs.YtmjhnmdmopmfjaaW.PrintMore
attribute [local go_sem] max2_int min2_int max_two min_two max_three min_three max_four min_four
set_option linter.unusedVariables false
set_option linter.unusedSimpArgs false
def slices_Max_uint8_uint8.l0 : Nat → List Int → Int → Int → Option (Int)
 | 0, _, _, _ => none
 | k + 1, x0, x3, x4 => if x4 < (x0.length : Int) then (if 0 ≤ x4 then (slices_Max_uint8_uint8.l0 k x0 (mx x3 (rd x0 x4)) (wrap64 (x4 + 1))) else (none)) else (some x3)
def slices_Max_uint8_uint8.f (k : Nat) (l0 : List Int) : Option (Int) := if (l0.length : Int) < 1 then (none) else (if 0 < (l0.length : Int) then (slices_Max_uint8_uint8.l0 k l0 (rd l0 0) 1) else (none))
theorem slices_Max_uint8_uint8.mono_l : ∀ k, (∀ y0 y1 y2, LeO (slices_Max_uint8_uint8.l0 k y0 y1 y2) (slices_Max_uint8_uint8.l0 (k + 1) y0 y1 y2))
 | 0 => fun _ _ _ r h => by simp [slices_Max_uint8_uint8.l0] at h
 | k + 1 => by
  have ih0 := slices_Max_uint8_uint8.mono_l k
  ·intro y0 y1 y2
   unfold slices_Max_uint8_uint8.l0
   repeat' first
   | (with_reducible exact ih0 _ _ _)
   | (with_reducible exact LeO.refl _)
   | (with_reducible exact LeO.none _)
   | (with_reducible refine LeO.ite ?_ ?_)
   | (with_reducible refine LeO.bind ?_ (fun _ => ?_))
   | exact ih0 _ _ _
   | exact LeO.none _
   | refine LeO.ite ?_ ?_
   | refine LeO.bind ?_ (fun _ => ?_)
theorem slices_Max_uint8_uint8.mono : ∀ a0 k, LeO (slices_Max_uint8_uint8.f k a0) (slices_Max_uint8_uint8.f (k + 1) a0) := by
 intro a0 k
 have ih0 := slices_Max_uint8_uint8.mono_l k
 unfold slices_Max_uint8_uint8.f
 repeat' first
   | (with_reducible exact ih0 _ _ _)
   | (with_reducible exact LeO.refl _)
   | (with_reducible exact LeO.none _)
   | (with_reducible refine LeO.ite ?_ ?_)
   | (with_reducible refine LeO.bind ?_ (fun _ => ?_))
   | exact ih0 _ _ _
   | exact LeO.none _
   | refine LeO.ite ?_ ?_
   | refine LeO.bind ?_ (fun _ => ?_)
set_option maxHeartbeats 8000000 in
set_option maxRecDepth 100000 in
theorem slices_Max_uint8_uint8.calls (k : Nat) (A0 : Option Addr) (c0 : Nat) (l0 : List Int) (r : Int) (w : World) (hr0 : Kd.C (Kd.int .u8) w A0 l0.length l0) (hc0 : l0.length ≤ c0) (h : slices_Max_uint8_uint8.f k l0 = some r) :
  Calls Try.prog 60 #[.slice A0 l0.length c0] w fun e w' => e = .returned (.int .u8 r) ∧ Below w.heap.size w w' := by
 have HR0 := asd hr0
 have HC0 := asd hc0
 clear hr0 hc0
 have HB := asd (Below.refl w.heap.size w)
 have H : (if (l0.length : Int) < 1 then (none) else (if 0 < (l0.length : Int) then (slices_Max_uint8_uint8.l0 k l0 (rd l0 0) 1) else (none))) = some r := h
 clear h
 by_cases c2 : (l0.length : Int) < 1
 ·rw [if_pos c2] at H
  exact absurd H (by simp)
 ·rw [if_neg c2] at H
  have c2b0 : decide ((l0.length : Int) < 1) = false := decide_eq_false c2
  have c2b1 : decide (l0.length < 1) = false := decide_eq_false (by omega)
  clear c2
  by_cases c3 : 0 < (l0.length : Int)
  ·rw [if_pos c3] at H
   have c3b0 : decide (0 < (l0.length : Int)) = true := decide_eq_true c3
   have c3b1 : decide (0 < l0.length) = true := decide_eq_true (by omega)
   clear c3
   have H' := asd H
   clear H
   have p359 : 0 ≤ (0 : Int) := (by omega)
   have q359 : 0 < (l0.length : Int) := of_decide_eq_true (by assumption)
   obtain ⟨ad359, e359, hx359_0⟩ := Kd.at_int HR0.out 0 p359 q359
   cases e359
   have qi359 : (0 < l0.length) = True := eq_true (by omega)
   (try rw [show ((0 : Int)).toNat = 0 from rfl] at hx359_0)
   (try rw [Addr.add_zero'] at hx359_0)
   replace p359 := eq_true p359
   replace q359 := eq_true q359
   go_enter Try.func60, Try.ntmps60
   go_wp2
   go_loopg [3, 4] k (fun kq v3 v4 w' => ∃ (x3_1 : Int) (x4_1 : Int), v3 = .int .u8 x3_1 ∧ v4 = .int .i64 x4_1 ∧ Aside0 (slices_Max_uint8_uint8.l0 kq l0 x3_1 x4_1 = some r) ∧ Aside0 (kq ≤ k) ∧ Aside0 (Below w.heap.size w w'))
   case atStart => exact ⟨(rd l0 0), (1), (by first | rfl | (simp; done) | (simp [*]; done)), (by first | rfl | (simp; done) | (simp [*]; done)), H', ⟨Nat.le_refl _⟩, ⟨by repeat (first | (with_reducible first | exact HB.out | apply wa | apply wn | apply wd) | exact HB.out)⟩⟩
   case round =>
    clear H'
    try clear c2
    try clear c2b0
    try clear c2b1
    try clear p2
    try clear c3
    try clear c3b0
    try clear c3b1
    try clear p3
    try clear q3
    try clear hx3
    try clear qi3
    try clear hx359_0
    try clear p359
    try clear q359
    obtain ⟨x3_1, x4_1, rfl, rfl, HA, HK1, HB⟩ := hrel
    cases gk with
    | zero => exact absurd HA.out (by simp [slices_Max_uint8_uint8.l0])
    | succ k1 =>
     have H := HA.out
     clear HA
     simp only [slices_Max_uint8_uint8.l0] at H
     by_cases c4 : x4_1 < (l0.length : Int)
     ·rw [if_pos c4] at H
      have c4b0 : decide (x4_1 < (l0.length : Int)) = true := decide_eq_true c4
      clear c4
      by_cases c5 : 0 ≤ x4_1
      ·rw [if_pos c5] at H
       have c5b0 : decide (0 ≤ x4_1) = true := decide_eq_true c5
       clear c5
       obtain ⟨ji6, hji6⟩ : ∃ j_ : Int, (mx x3_1 (rd l0 x4_1)) = j_ := ⟨_, rfl⟩
       replace H : (slices_Max_uint8_uint8.l0 k1 l0 ji6 (wrap64 (x4_1 + 1))) = some r := by first | (rw [hji6] at H; exact H) | (simp only [hji6] at H ⊢; exact H)
       have hji6_ : (if x3_1 < (rd l0 x4_1) then (rd l0 x4_1) else x3_1) = ji6 := hji6
       have H' := asd H
       clear H
       have p360 : 0 ≤ (x4_1 : Int) := of_decide_eq_true (by assumption)
       have q360 : x4_1 < (l0.length : Int) := of_decide_eq_true (by assumption)
       obtain ⟨ad360, e360, hx360_0⟩ := Kd.at_int HR0.out x4_1 p360 q360
       obtain rfl : ad359 = ad360 := (by injection e360)
       replace hx360_0 := (HB.out.cell (World.block_lt_of_cell? w _ hx360_0)).trans hx360_0
       replace p360 := eq_true p360
       replace q360 := eq_true q360
       go_wp2
       go_roundg k1
       case measure => have := HK1.out; omega
       case rel => exact ⟨(ji6), (wrap64 (x4_1 + 1)), (by first | rfl | (simp; done) | (simp only [← hji6] <;> (first | rfl | simp)) | (simp [*]; done)), (by first | rfl | (simp; done) | (simp [*]; done)), H', ⟨by have := HK1.out; omega⟩, ⟨by repeat (first | (with_reducible first | exact HB.out | apply wa | apply wn | apply wd) | exact HB.out)⟩⟩
      ·rw [if_neg c5] at H
       exact absurd H (by simp)
     ·rw [if_neg c4] at H
      have c4b0 : decide (x4_1 < (l0.length : Int)) = false := decide_eq_false c4
      clear c4
      obtain rfl := Option.some.inj H
      go_wp2
      go_ret
      exact ⟨by first | rfl | (simp [*] <;> rfl), by repeat (first | (with_reducible first | exact HB.out | apply wa | apply wn | apply wd) | exact HB.out)⟩
  ·rw [if_neg c3] at H
   exact absurd H (by simp)
end Go.Proofs.Ytmjhnmdmopmfjaa.Fn
namespace Go.Proofs.Ytmjhnmdmopmfjaa.Fn
open Go.RowKit Go.Proofs.YtmjhnmdmopmfjaaW.PrintWords Go.Proofs.YtmjhnmdmopmfjaaW.PrintLast Go.Proofs.YtmjhnmdmopmfjaaW.PrintMore
attribute [local go_sem] max2_int min2_int max_two min_two max_three min_three max_four min_four
set_option linter.unusedVariables false
set_option linter.unusedSimpArgs false
def parcloseref03_RightTask.f (a0_0 : Bool) (a0_1 : Int) (a0_2 : Int) (a0_3 : Int) (a0_4 : Int) (a0_5 : Int) : Option (Bool) := if a0_1 < 1 then (some false) else (if a0_1 > 1000 then (some false) else (if a0_4 < 1 then (some false) else (if a0_4 > a0_3 then (some false) else (if a0_3 > a0_2 then (some false) else (if a0_2 > a0_1 then (some false) else (if a0_4 > a0_5 then (some false) else (if a0_5 > a0_2 then (some false) else (if a0_0 = true then (some true) else (if a0_3 = a0_2 then (some (a0_5 == a0_4)) else (some false))))))))))
set_option maxHeartbeats 8000000 in
set_option maxRecDepth 100000 in
theorem parcloseref03_RightTask.calls (a0_0 : Bool) (a0_1 : Int) (a0_2 : Int) (a0_3 : Int) (a0_4 : Int) (a0_5 : Int) (r : Bool) (w : World) (h : parcloseref03_RightTask.f a0_0 a0_1 a0_2 a0_3 a0_4 a0_5 = some r) :
  Calls Try.prog 27 #[.agg #[.bool a0_0, .int .i64 a0_1, .int .i64 a0_2, .int .i64 a0_3, .int .i64 a0_4, .int .i64 a0_5]] w fun e w' => e = .returned (.bool r) ∧ Below w.heap.size w w' := by
 have hu56 := Try.underlying56
 have HB := asd (Below.refl w.heap.size w)
 have H : (if a0_1 < 1 then (some false) else (if a0_1 > 1000 then (some false) else (if a0_4 < 1 then (some false) else (if a0_4 > a0_3 then (some false) else (if a0_3 > a0_2 then (some false) else (if a0_2 > a0_1 then (some false) else (if a0_4 > a0_5 then (some false) else (if a0_5 > a0_2 then (some false) else (if a0_0 = true then (some true) else (if a0_3 = a0_2 then (some (a0_5 == a0_4)) else (some false))))))))))) = some r := h
 clear h
 by_cases c2 : a0_1 < 1
 ·rw [if_pos c2] at H
  have c2b0 : decide (a0_1 < 1) = true := decide_eq_true c2
  clear c2
  obtain rfl := Option.some.inj H
  go_enter Try.func27, Try.ntmps27
  go_wp2_with (first | ((with_reducible refine gate_dst (N := 1) rfl ?_); refine box_event ?hg (N := 1) ?hd (cs := #[.bool a0_0, .int .i64 a0_1, .int .i64 a0_2, .int .i64 a0_3, .int .i64 a0_4, .int .i64 a0_5]) (t := 56) ?hr ?_; (case hd => rfl); (case hg => rfl); (case hr => first | (go_simp; done) | (go_simp; rfl)); intro gb349 hg w3 hbox hb; have n0_ := asd (below_step (by repeat (first | (with_reducible first | exact HB.out | apply wa | apply wn | apply wd) | exact HB.out)) hb); have n1_ := asd (hbox); have n2_ := asd ((by rw [hg]; exact (below_size (by repeat (first | (with_reducible first | exact HB.out | apply wa | apply wn | apply wd) | exact HB.out))) : w.heap.size ≤ gb349)); have n3_ := asd ((by rw [hg]; exact (below_size (by repeat (first | (with_reducible first | exact HB.out | apply wa | apply wn | apply wd) | exact HB.out))) : w.heap.size ≤ gb349)); clear HB; have HB := n0_; have BK349 := n1_; have GW349 := n2_; have GE349 := n3_; clear n0_ n1_ n2_ n3_; clear hb hbox hg; have hcz4_0 : w3.cell? ⟨gb349, 0, none⟩ = some (.bool a0_0) := (blk_cell BK349.out 0).trans rfl; have hcz4_1 : w3.cell? ⟨gb349, 1, none⟩ = some (.int .i64 a0_1) := (blk_cell BK349.out 1).trans rfl; have hcz4_2 : w3.cell? ⟨gb349, 2, none⟩ = some (.int .i64 a0_2) := (blk_cell BK349.out 2).trans rfl; have hcz4_3 : w3.cell? ⟨gb349, 3, none⟩ = some (.int .i64 a0_3) := (blk_cell BK349.out 3).trans rfl; have hcz4_4 : w3.cell? ⟨gb349, 4, none⟩ = some (.int .i64 a0_4) := (blk_cell BK349.out 4).trans rfl; have hcz4_5 : w3.cell? ⟨gb349, 5, none⟩ = some (.int .i64 a0_5) := (blk_cell BK349.out 5).trans rfl; have hfz4_0 := blk_frozen BK349.out 0; have hfz4_1 := blk_frozen BK349.out 1; have hfz4_2 := blk_frozen BK349.out 2; have hfz4_3 := blk_frozen BK349.out 3; have hfz4_4 := blk_frozen BK349.out 4; have hfz4_5 := blk_frozen BK349.out 5))
  go_ret
  exact ⟨by first | rfl | (simp [*] <;> rfl), by repeat (first | (with_reducible first | exact HB.out | apply wa | apply wn | apply wd | refine ws ?_ GE349.out) | exact HB.out)⟩
 ·rw [if_neg c2] at H
  have c2b0 : decide (a0_1 < 1) = false := decide_eq_false c2
  clear c2
  by_cases c5 : a0_1 > 1000
  ·rw [if_pos c5] at H
   have c5b0 : decide (1000 < a0_1) = true := decide_eq_true c5
   clear c5
   obtain rfl := Option.some.inj H
   go_enter Try.func27, Try.ntmps27
   go_wp2_with (first | ((with_reducible refine gate_dst (N := 1) rfl ?_); refine box_event ?hg (N := 1) ?hd (cs := #[.bool a0_0, .int .i64 a0_1, .int .i64 a0_2, .int .i64 a0_3, .int .i64 a0_4, .int .i64 a0_5]) (t := 56) ?hr ?_; (case hd => rfl); (case hg => rfl); (case hr => first | (go_simp; done) | (go_simp; rfl)); intro gb349 hg w6 hbox hb; have n0_ := asd (below_step (by repeat (first | (with_reducible first | exact HB.out | apply wa | apply wn | apply wd) | exact HB.out)) hb); have n1_ := asd (hbox); have n2_ := asd ((by rw [hg]; exact (below_size (by repeat (first | (with_reducible first | exact HB.out | apply wa | apply wn | apply wd) | exact HB.out))) : w.heap.size ≤ gb349)); have n3_ := asd ((by rw [hg]; exact (below_size (by repeat (first | (with_reducible first | exact HB.out | apply wa | apply wn | apply wd) | exact HB.out))) : w.heap.size ≤ gb349)); clear HB; have HB := n0_; have BK349 := n1_; have GW349 := n2_; have GE349 := n3_; clear n0_ n1_ n2_ n3_; clear hb hbox hg; have hcz7_0 : w6.cell? ⟨gb349, 0, none⟩ = some (.bool a0_0) := (blk_cell BK349.out 0).trans rfl; have hcz7_1 : w6.cell? ⟨gb349, 1, none⟩ = some (.int .i64 a0_1) := (blk_cell BK349.out 1).trans rfl; have hcz7_2 : w6.cell? ⟨gb349, 2, none⟩ = some (.int .i64 a0_2) := (blk_cell BK349.out 2).trans rfl; have hcz7_3 : w6.cell? ⟨gb349, 3, none⟩ = some (.int .i64 a0_3) := (blk_cell BK349.out 3).trans rfl; have hcz7_4 : w6.cell? ⟨gb349, 4, none⟩ = some (.int .i64 a0_4) := (blk_cell BK349.out 4).trans rfl; have hcz7_5 : w6.cell? ⟨gb349, 5, none⟩ = some (.int .i64 a0_5) := (blk_cell BK349.out 5).trans rfl; have hfz7_0 := blk_frozen BK349.out 0; have hfz7_1 := blk_frozen BK349.out 1; have hfz7_2 := blk_frozen BK349.out 2; have hfz7_3 := blk_frozen BK349.out 3; have hfz7_4 := blk_frozen BK349.out 4; have hfz7_5 := blk_frozen BK349.out 5))
   go_ret
   exact ⟨by first | rfl | (simp [*] <;> rfl), by repeat (first | (with_reducible first | exact HB.out | apply wa | apply wn | apply wd | refine ws ?_ GE349.out) | exact HB.out)⟩
  ·rw [if_neg c5] at H
   have c5b0 : decide (1000 < a0_1) = false := decide_eq_false c5
   clear c5
   by_cases c8 : a0_4 < 1
   ·rw [if_pos c8] at H
    have c8b0 : decide (a0_4 < 1) = true := decide_eq_true c8
    clear c8
    obtain rfl := Option.some.inj H
    go_enter Try.func27, Try.ntmps27
    go_wp2_with (first | ((with_reducible refine gate_dst (N := 1) rfl ?_); refine box_event ?hg (N := 1) ?hd (cs := #[.bool a0_0, .int .i64 a0_1, .int .i64 a0_2, .int .i64 a0_3, .int .i64 a0_4, .int .i64 a0_5]) (t := 56) ?hr ?_; (case hd => rfl); (case hg => rfl); (case hr => first | (go_simp; done) | (go_simp; rfl)); intro gb349 hg w9 hbox hb; have n0_ := asd (below_step (by repeat (first | (with_reducible first | exact HB.out | apply wa | apply wn | apply wd) | exact HB.out)) hb); have n1_ := asd (hbox); have n2_ := asd ((by rw [hg]; exact (below_size (by repeat (first | (with_reducible first | exact HB.out | apply wa | apply wn | apply wd) | exact HB.out))) : w.heap.size ≤ gb349)); have n3_ := asd ((by rw [hg]; exact (below_size (by repeat (first | (with_reducible first | exact HB.out | apply wa | apply wn | apply wd) | exact HB.out))) : w.heap.size ≤ gb349)); clear HB; have HB := n0_; have BK349 := n1_; have GW349 := n2_; have GE349 := n3_; clear n0_ n1_ n2_ n3_; clear hb hbox hg; have hcz10_0 : w9.cell? ⟨gb349, 0, none⟩ = some (.bool a0_0) := (blk_cell BK349.out 0).trans rfl; have hcz10_1 : w9.cell? ⟨gb349, 1, none⟩ = some (.int .i64 a0_1) := (blk_cell BK349.out 1).trans rfl; have hcz10_2 : w9.cell? ⟨gb349, 2, none⟩ = some (.int .i64 a0_2) := (blk_cell BK349.out 2).trans rfl; have hcz10_3 : w9.cell? ⟨gb349, 3, none⟩ = some (.int .i64 a0_3) := (blk_cell BK349.out 3).trans rfl; have hcz10_4 : w9.cell? ⟨gb349, 4, none⟩ = some (.int .i64 a0_4) := (blk_cell BK349.out 4).trans rfl; have hcz10_5 : w9.cell? ⟨gb349, 5, none⟩ = some (.int .i64 a0_5) := (blk_cell BK349.out 5).trans rfl; have hfz10_0 := blk_frozen BK349.out 0; have hfz10_1 := blk_frozen BK349.out 1; have hfz10_2 := blk_frozen BK349.out 2; have hfz10_3 := blk_frozen BK349.out 3; have hfz10_4 := blk_frozen BK349.out 4; have hfz10_5 := blk_frozen BK349.out 5))
    go_ret
    exact ⟨by first | rfl | (simp [*] <;> rfl), by repeat (first | (with_reducible first | exact HB.out | apply wa | apply wn | apply wd | refine ws ?_ GE349.out) | exact HB.out)⟩
   ·rw [if_neg c8] at H
    have c8b0 : decide (a0_4 < 1) = false := decide_eq_false c8
    clear c8
    by_cases c11 : a0_4 > a0_3
    ·rw [if_pos c11] at H
     have c11b0 : decide (a0_3 < a0_4) = true := decide_eq_true c11
     clear c11
     obtain rfl := Option.some.inj H
     go_enter Try.func27, Try.ntmps27
     go_wp2_with (first | ((with_reducible refine gate_dst (N := 1) rfl ?_); refine box_event ?hg (N := 1) ?hd (cs := #[.bool a0_0, .int .i64 a0_1, .int .i64 a0_2, .int .i64 a0_3, .int .i64 a0_4, .int .i64 a0_5]) (t := 56) ?hr ?_; (case hd => rfl); (case hg => rfl); (case hr => first | (go_simp; done) | (go_simp; rfl)); intro gb349 hg w12 hbox hb; have n0_ := asd (below_step (by repeat (first | (with_reducible first | exact HB.out | apply wa | apply wn | apply wd) | exact HB.out)) hb); have n1_ := asd (hbox); have n2_ := asd ((by rw [hg]; exact (below_size (by repeat (first | (with_reducible first | exact HB.out | apply wa | apply wn | apply wd) | exact HB.out))) : w.heap.size ≤ gb349)); have n3_ := asd ((by rw [hg]; exact (below_size (by repeat (first | (with_reducible first | exact HB.out | apply wa | apply wn | apply wd) | exact HB.out))) : w.heap.size ≤ gb349)); clear HB; have HB := n0_; have BK349 := n1_; have GW349 := n2_; have GE349 := n3_; clear n0_ n1_ n2_ n3_; clear hb hbox hg; have hcz13_0 : w12.cell? ⟨gb349, 0, none⟩ = some (.bool a0_0) := (blk_cell BK349.out 0).trans rfl; have hcz13_1 : w12.cell? ⟨gb349, 1, none⟩ = some (.int .i64 a0_1) := (blk_cell BK349.out 1).trans rfl; have hcz13_2 : w12.cell? ⟨gb349, 2, none⟩ = some (.int .i64 a0_2) := (blk_cell BK349.out 2).trans rfl; have hcz13_3 : w12.cell? ⟨gb349, 3, none⟩ = some (.int .i64 a0_3) := (blk_cell BK349.out 3).trans rfl; have hcz13_4 : w12.cell? ⟨gb349, 4, none⟩ = some (.int .i64 a0_4) := (blk_cell BK349.out 4).trans rfl; have hcz13_5 : w12.cell? ⟨gb349, 5, none⟩ = some (.int .i64 a0_5) := (blk_cell BK349.out 5).trans rfl; have hfz13_0 := blk_frozen BK349.out 0; have hfz13_1 := blk_frozen BK349.out 1; have hfz13_2 := blk_frozen BK349.out 2; have hfz13_3 := blk_frozen BK349.out 3; have hfz13_4 := blk_frozen BK349.out 4; have hfz13_5 := blk_frozen BK349.out 5))
     go_ret
     exact ⟨by first | rfl | (simp [*] <;> rfl), by repeat (first | (with_reducible first | exact HB.out | apply wa | apply wn | apply wd | refine ws ?_ GE349.out) | exact HB.out)⟩
    ·rw [if_neg c11] at H
     have c11b0 : decide (a0_3 < a0_4) = false := decide_eq_false c11
     clear c11
     by_cases c14 : a0_3 > a0_2
     ·rw [if_pos c14] at H
      have c14b0 : decide (a0_2 < a0_3) = true := decide_eq_true c14
      clear c14
      obtain rfl := Option.some.inj H
      go_enter Try.func27, Try.ntmps27
      go_wp2_with (first | ((with_reducible refine gate_dst (N := 1) rfl ?_); refine box_event ?hg (N := 1) ?hd (cs := #[.bool a0_0, .int .i64 a0_1, .int .i64 a0_2, .int .i64 a0_3, .int .i64 a0_4, .int .i64 a0_5]) (t := 56) ?hr ?_; (case hd => rfl); (case hg => rfl); (case hr => first | (go_simp; done) | (go_simp; rfl)); intro gb349 hg w15 hbox hb; have n0_ := asd (below_step (by repeat (first | (with_reducible first | exact HB.out | apply wa | apply wn | apply wd) | exact HB.out)) hb); have n1_ := asd (hbox); have n2_ := asd ((by rw [hg]; exact (below_size (by repeat (first | (with_reducible first | exact HB.out | apply wa | apply wn | apply wd) | exact HB.out))) : w.heap.size ≤ gb349)); have n3_ := asd ((by rw [hg]; exact (below_size (by repeat (first | (with_reducible first | exact HB.out | apply wa | apply wn | apply wd) | exact HB.out))) : w.heap.size ≤ gb349)); clear HB; have HB := n0_; have BK349 := n1_; have GW349 := n2_; have GE349 := n3_; clear n0_ n1_ n2_ n3_; clear hb hbox hg; have hcz16_0 : w15.cell? ⟨gb349, 0, none⟩ = some (.bool a0_0) := (blk_cell BK349.out 0).trans rfl; have hcz16_1 : w15.cell? ⟨gb349, 1, none⟩ = some (.int .i64 a0_1) := (blk_cell BK349.out 1).trans rfl; have hcz16_2 : w15.cell? ⟨gb349, 2, none⟩ = some (.int .i64 a0_2) := (blk_cell BK349.out 2).trans rfl; have hcz16_3 : w15.cell? ⟨gb349, 3, none⟩ = some (.int .i64 a0_3) := (blk_cell BK349.out 3).trans rfl; have hcz16_4 : w15.cell? ⟨gb349, 4, none⟩ = some (.int .i64 a0_4) := (blk_cell BK349.out 4).trans rfl; have hcz16_5 : w15.cell? ⟨gb349, 5, none⟩ = some (.int .i64 a0_5) := (blk_cell BK349.out 5).trans rfl; have hfz16_0 := blk_frozen BK349.out 0; have hfz16_1 := blk_frozen BK349.out 1; have hfz16_2 := blk_frozen BK349.out 2; have hfz16_3 := blk_frozen BK349.out 3; have hfz16_4 := blk_frozen BK349.out 4; have hfz16_5 := blk_frozen BK349.out 5))
      go_ret
      exact ⟨by first | rfl | (simp [*] <;> rfl), by repeat (first | (with_reducible first | exact HB.out | apply wa | apply wn | apply wd | refine ws ?_ GE349.out) | exact HB.out)⟩
     ·rw [if_neg c14] at H
      have c14b0 : decide (a0_2 < a0_3) = false := decide_eq_false c14
      clear c14
      by_cases c17 : a0_2 > a0_1
      ·rw [if_pos c17] at H
       have c17b0 : decide (a0_1 < a0_2) = true := decide_eq_true c17
       clear c17
       obtain rfl := Option.some.inj H
       go_enter Try.func27, Try.ntmps27
       go_wp2_with (first | ((with_reducible refine gate_dst (N := 1) rfl ?_); refine box_event ?hg (N := 1) ?hd (cs := #[.bool a0_0, .int .i64 a0_1, .int .i64 a0_2, .int .i64 a0_3, .int .i64 a0_4, .int .i64 a0_5]) (t := 56) ?hr ?_; (case hd => rfl); (case hg => rfl); (case hr => first | (go_simp; done) | (go_simp; rfl)); intro gb349 hg w18 hbox hb; have n0_ := asd (below_step (by repeat (first | (with_reducible first | exact HB.out | apply wa | apply wn | apply wd) | exact HB.out)) hb); have n1_ := asd (hbox); have n2_ := asd ((by rw [hg]; exact (below_size (by repeat (first | (with_reducible first | exact HB.out | apply wa | apply wn | apply wd) | exact HB.out))) : w.heap.size ≤ gb349)); have n3_ := asd ((by rw [hg]; exact (below_size (by repeat (first | (with_reducible first | exact HB.out | apply wa | apply wn | apply wd) | exact HB.out))) : w.heap.size ≤ gb349)); clear HB; have HB := n0_; have BK349 := n1_; have GW349 := n2_; have GE349 := n3_; clear n0_ n1_ n2_ n3_; clear hb hbox hg; have hcz19_0 : w18.cell? ⟨gb349, 0, none⟩ = some (.bool a0_0) := (blk_cell BK349.out 0).trans rfl; have hcz19_1 : w18.cell? ⟨gb349, 1, none⟩ = some (.int .i64 a0_1) := (blk_cell BK349.out 1).trans rfl; have hcz19_2 : w18.cell? ⟨gb349, 2, none⟩ = some (.int .i64 a0_2) := (blk_cell BK349.out 2).trans rfl; have hcz19_3 : w18.cell? ⟨gb349, 3, none⟩ = some (.int .i64 a0_3) := (blk_cell BK349.out 3).trans rfl; have hcz19_4 : w18.cell? ⟨gb349, 4, none⟩ = some (.int .i64 a0_4) := (blk_cell BK349.out 4).trans rfl; have hcz19_5 : w18.cell? ⟨gb349, 5, none⟩ = some (.int .i64 a0_5) := (blk_cell BK349.out 5).trans rfl; have hfz19_0 := blk_frozen BK349.out 0; have hfz19_1 := blk_frozen BK349.out 1; have hfz19_2 := blk_frozen BK349.out 2; have hfz19_3 := blk_frozen BK349.out 3; have hfz19_4 := blk_frozen BK349.out 4; have hfz19_5 := blk_frozen BK349.out 5))
       go_ret
       exact ⟨by first | rfl | (simp [*] <;> rfl), by repeat (first | (with_reducible first | exact HB.out | apply wa | apply wn | apply wd | refine ws ?_ GE349.out) | exact HB.out)⟩
      ·rw [if_neg c17] at H
       have c17b0 : decide (a0_1 < a0_2) = false := decide_eq_false c17
       clear c17
       by_cases c20 : a0_4 > a0_5
       ·rw [if_pos c20] at H
        have c20b0 : decide (a0_5 < a0_4) = true := decide_eq_true c20
        clear c20
        obtain rfl := Option.some.inj H
        go_enter Try.func27, Try.ntmps27
        go_wp2_with (first | ((with_reducible refine gate_dst (N := 1) rfl ?_); refine box_event ?hg (N := 1) ?hd (cs := #[.bool a0_0, .int .i64 a0_1, .int .i64 a0_2, .int .i64 a0_3, .int .i64 a0_4, .int .i64 a0_5]) (t := 56) ?hr ?_; (case hd => rfl); (case hg => rfl); (case hr => first | (go_simp; done) | (go_simp; rfl)); intro gb349 hg w21 hbox hb; have n0_ := asd (below_step (by repeat (first | (with_reducible first | exact HB.out | apply wa | apply wn | apply wd) | exact HB.out)) hb); have n1_ := asd (hbox); have n2_ := asd ((by rw [hg]; exact (below_size (by repeat (first | (with_reducible first | exact HB.out | apply wa | apply wn | apply wd) | exact HB.out))) : w.heap.size ≤ gb349)); have n3_ := asd ((by rw [hg]; exact (below_size (by repeat (first | (with_reducible first | exact HB.out | apply wa | apply wn | apply wd) | exact HB.out))) : w.heap.size ≤ gb349)); clear HB; have HB := n0_; have BK349 := n1_; have GW349 := n2_; have GE349 := n3_; clear n0_ n1_ n2_ n3_; clear hb hbox hg; have hcz22_0 : w21.cell? ⟨gb349, 0, none⟩ = some (.bool a0_0) := (blk_cell BK349.out 0).trans rfl; have hcz22_1 : w21.cell? ⟨gb349, 1, none⟩ = some (.int .i64 a0_1) := (blk_cell BK349.out 1).trans rfl; have hcz22_2 : w21.cell? ⟨gb349, 2, none⟩ = some (.int .i64 a0_2) := (blk_cell BK349.out 2).trans rfl; have hcz22_3 : w21.cell? ⟨gb349, 3, none⟩ = some (.int .i64 a0_3) := (blk_cell BK349.out 3).trans rfl; have hcz22_4 : w21.cell? ⟨gb349, 4, none⟩ = some (.int .i64 a0_4) := (blk_cell BK349.out 4).trans rfl; have hcz22_5 : w21.cell? ⟨gb349, 5, none⟩ = some (.int .i64 a0_5) := (blk_cell BK349.out 5).trans rfl; have hfz22_0 := blk_frozen BK349.out 0; have hfz22_1 := blk_frozen BK349.out 1; have hfz22_2 := blk_frozen BK349.out 2; have hfz22_3 := blk_frozen BK349.out 3; have hfz22_4 := blk_frozen BK349.out 4; have hfz22_5 := blk_frozen BK349.out 5))
        go_ret
        exact ⟨by first | rfl | (simp [*] <;> rfl), by repeat (first | (with_reducible first | exact HB.out | apply wa | apply wn | apply wd | refine ws ?_ GE349.out) | exact HB.out)⟩
       ·rw [if_neg c20] at H
        have c20b0 : decide (a0_5 < a0_4) = false := decide_eq_false c20
        clear c20
        by_cases c23 : a0_5 > a0_2
        ·rw [if_pos c23] at H
         have c23b0 : decide (a0_2 < a0_5) = true := decide_eq_true c23
         clear c23
         obtain rfl := Option.some.inj H
         go_enter Try.func27, Try.ntmps27
         go_wp2_with (first | ((with_reducible refine gate_dst (N := 1) rfl ?_); refine box_event ?hg (N := 1) ?hd (cs := #[.bool a0_0, .int .i64 a0_1, .int .i64 a0_2, .int .i64 a0_3, .int .i64 a0_4, .int .i64 a0_5]) (t := 56) ?hr ?_; (case hd => rfl); (case hg => rfl); (case hr => first | (go_simp; done) | (go_simp; rfl)); intro gb349 hg w24 hbox hb; have n0_ := asd (below_step (by repeat (first | (with_reducible first | exact HB.out | apply wa | apply wn | apply wd) | exact HB.out)) hb); have n1_ := asd (hbox); have n2_ := asd ((by rw [hg]; exact (below_size (by repeat (first | (with_reducible first | exact HB.out | apply wa | apply wn | apply wd) | exact HB.out))) : w.heap.size ≤ gb349)); have n3_ := asd ((by rw [hg]; exact (below_size (by repeat (first | (with_reducible first | exact HB.out | apply wa | apply wn | apply wd) | exact HB.out))) : w.heap.size ≤ gb349)); clear HB; have HB := n0_; have BK349 := n1_; have GW349 := n2_; have GE349 := n3_; clear n0_ n1_ n2_ n3_; clear hb hbox hg; have hcz25_0 : w24.cell? ⟨gb349, 0, none⟩ = some (.bool a0_0) := (blk_cell BK349.out 0).trans rfl; have hcz25_1 : w24.cell? ⟨gb349, 1, none⟩ = some (.int .i64 a0_1) := (blk_cell BK349.out 1).trans rfl; have hcz25_2 : w24.cell? ⟨gb349, 2, none⟩ = some (.int .i64 a0_2) := (blk_cell BK349.out 2).trans rfl; have hcz25_3 : w24.cell? ⟨gb349, 3, none⟩ = some (.int .i64 a0_3) := (blk_cell BK349.out 3).trans rfl; have hcz25_4 : w24.cell? ⟨gb349, 4, none⟩ = some (.int .i64 a0_4) := (blk_cell BK349.out 4).trans rfl; have hcz25_5 : w24.cell? ⟨gb349, 5, none⟩ = some (.int .i64 a0_5) := (blk_cell BK349.out 5).trans rfl; have hfz25_0 := blk_frozen BK349.out 0; have hfz25_1 := blk_frozen BK349.out 1; have hfz25_2 := blk_frozen BK349.out 2; have hfz25_3 := blk_frozen BK349.out 3; have hfz25_4 := blk_frozen BK349.out 4; have hfz25_5 := blk_frozen BK349.out 5))
         go_ret
         exact ⟨by first | rfl | (simp [*] <;> rfl), by repeat (first | (with_reducible first | exact HB.out | apply wa | apply wn | apply wd | refine ws ?_ GE349.out) | exact HB.out)⟩
        ·rw [if_neg c23] at H
         have c23b0 : decide (a0_2 < a0_5) = false := decide_eq_false c23
         clear c23
         by_cases c26 : a0_0 = true
         ·subst c26
          have H1 : (some true) = some r := by rw [if_pos rfl] at H; exact H
          clear H
          have H := H1
          clear H1
          obtain rfl := Option.some.inj H
          go_enter Try.func27, Try.ntmps27
          go_wp2_with (first | ((with_reducible refine gate_dst (N := 1) rfl ?_); refine box_event ?hg (N := 1) ?hd (cs := #[.bool true, .int .i64 a0_1, .int .i64 a0_2, .int .i64 a0_3, .int .i64 a0_4, .int .i64 a0_5]) (t := 56) ?hr ?_; (case hd => rfl); (case hg => rfl); (case hr => first | (go_simp; done) | (go_simp; rfl)); intro gb349 hg w27 hbox hb; have n0_ := asd (below_step (by repeat (first | (with_reducible first | exact HB.out | apply wa | apply wn | apply wd) | exact HB.out)) hb); have n1_ := asd (hbox); have n2_ := asd ((by rw [hg]; exact (below_size (by repeat (first | (with_reducible first | exact HB.out | apply wa | apply wn | apply wd) | exact HB.out))) : w.heap.size ≤ gb349)); have n3_ := asd ((by rw [hg]; exact (below_size (by repeat (first | (with_reducible first | exact HB.out | apply wa | apply wn | apply wd) | exact HB.out))) : w.heap.size ≤ gb349)); clear HB; have HB := n0_; have BK349 := n1_; have GW349 := n2_; have GE349 := n3_; clear n0_ n1_ n2_ n3_; clear hb hbox hg; have hcz28_0 : w27.cell? ⟨gb349, 0, none⟩ = some (.bool true) := (blk_cell BK349.out 0).trans rfl; have hcz28_1 : w27.cell? ⟨gb349, 1, none⟩ = some (.int .i64 a0_1) := (blk_cell BK349.out 1).trans rfl; have hcz28_2 : w27.cell? ⟨gb349, 2, none⟩ = some (.int .i64 a0_2) := (blk_cell BK349.out 2).trans rfl; have hcz28_3 : w27.cell? ⟨gb349, 3, none⟩ = some (.int .i64 a0_3) := (blk_cell BK349.out 3).trans rfl; have hcz28_4 : w27.cell? ⟨gb349, 4, none⟩ = some (.int .i64 a0_4) := (blk_cell BK349.out 4).trans rfl; have hcz28_5 : w27.cell? ⟨gb349, 5, none⟩ = some (.int .i64 a0_5) := (blk_cell BK349.out 5).trans rfl; have hfz28_0 := blk_frozen BK349.out 0; have hfz28_1 := blk_frozen BK349.out 1; have hfz28_2 := blk_frozen BK349.out 2; have hfz28_3 := blk_frozen BK349.out 3; have hfz28_4 := blk_frozen BK349.out 4; have hfz28_5 := blk_frozen BK349.out 5))
          go_ret
          exact ⟨by first | rfl | (simp [*] <;> rfl), by repeat (first | (with_reducible first | exact HB.out | apply wa | apply wn | apply wd | refine ws ?_ GE349.out) | exact HB.out)⟩
         ·replace c26 := Bool.eq_false_iff.mpr c26
          subst c26
          have H1 : (if a0_3 = a0_2 then (some (a0_5 == a0_4)) else (some false)) = some r := by rw [if_neg (show ¬ (false = true) by decide)] at H; exact H
          clear H
          have H := H1
          clear H1
          by_cases c29 : a0_3 = a0_2
          ·rw [if_pos c29] at H
           have c29b0 : (a0_3 == a0_2) = true := beq_iff_eq.mpr c29
           have c29b1 : (a0_3 != a0_2) = false := bne_eq_false_iff_eq.mpr c29
           clear c29
           obtain rfl := Option.some.inj H
           go_enter Try.func27, Try.ntmps27
           go_wp2_with (first | ((with_reducible refine gate_dst (N := 1) rfl ?_); refine box_event ?hg (N := 1) ?hd (cs := #[.bool false, .int .i64 a0_1, .int .i64 a0_2, .int .i64 a0_3, .int .i64 a0_4, .int .i64 a0_5]) (t := 56) ?hr ?_; (case hd => rfl); (case hg => rfl); (case hr => first | (go_simp; done) | (go_simp; rfl)); intro gb349 hg w30 hbox hb; have n0_ := asd (below_step (by repeat (first | (with_reducible first | exact HB.out | apply wa | apply wn | apply wd) | exact HB.out)) hb); have n1_ := asd (hbox); have n2_ := asd ((by rw [hg]; exact (below_size (by repeat (first | (with_reducible first | exact HB.out | apply wa | apply wn | apply wd) | exact HB.out))) : w.heap.size ≤ gb349)); have n3_ := asd ((by rw [hg]; exact (below_size (by repeat (first | (with_reducible first | exact HB.out | apply wa | apply wn | apply wd) | exact HB.out))) : w.heap.size ≤ gb349)); clear HB; have HB := n0_; have BK349 := n1_; have GW349 := n2_; have GE349 := n3_; clear n0_ n1_ n2_ n3_; clear hb hbox hg; have hcz31_0 : w30.cell? ⟨gb349, 0, none⟩ = some (.bool false) := (blk_cell BK349.out 0).trans rfl; have hcz31_1 : w30.cell? ⟨gb349, 1, none⟩ = some (.int .i64 a0_1) := (blk_cell BK349.out 1).trans rfl; have hcz31_2 : w30.cell? ⟨gb349, 2, none⟩ = some (.int .i64 a0_2) := (blk_cell BK349.out 2).trans rfl; have hcz31_3 : w30.cell? ⟨gb349, 3, none⟩ = some (.int .i64 a0_3) := (blk_cell BK349.out 3).trans rfl; have hcz31_4 : w30.cell? ⟨gb349, 4, none⟩ = some (.int .i64 a0_4) := (blk_cell BK349.out 4).trans rfl; have hcz31_5 : w30.cell? ⟨gb349, 5, none⟩ = some (.int .i64 a0_5) := (blk_cell BK349.out 5).trans rfl; have hfz31_0 := blk_frozen BK349.out 0; have hfz31_1 := blk_frozen BK349.out 1; have hfz31_2 := blk_frozen BK349.out 2; have hfz31_3 := blk_frozen BK349.out 3; have hfz31_4 := blk_frozen BK349.out 4; have hfz31_5 := blk_frozen BK349.out 5))
           go_ret
           exact ⟨by first | rfl | (simp [*] <;> rfl), by repeat (first | (with_reducible first | exact HB.out | apply wa | apply wn | apply wd | refine ws ?_ GE349.out) | exact HB.out)⟩
          ·rw [if_neg c29] at H
           have c29b0 : (a0_3 == a0_2) = false := beq_eq_false_iff_ne.mpr c29
           have c29b1 : (a0_3 != a0_2) = true := bne_iff_ne.mpr c29
           obtain rfl := Option.some.inj H
           go_enter Try.func27, Try.ntmps27
           go_wp2_with (first | ((with_reducible refine gate_dst (N := 1) rfl ?_); refine box_event ?hg (N := 1) ?hd (cs := #[.bool false, .int .i64 a0_1, .int .i64 a0_2, .int .i64 a0_3, .int .i64 a0_4, .int .i64 a0_5]) (t := 56) ?hr ?_; (case hd => rfl); (case hg => rfl); (case hr => first | (go_simp; done) | (go_simp; rfl)); intro gb349 hg w32 hbox hb; have n0_ := asd (below_step (by repeat (first | (with_reducible first | exact HB.out | apply wa | apply wn | apply wd) | exact HB.out)) hb); have n1_ := asd (hbox); have n2_ := asd ((by rw [hg]; exact (below_size (by repeat (first | (with_reducible first | exact HB.out | apply wa | apply wn | apply wd) | exact HB.out))) : w.heap.size ≤ gb349)); have n3_ := asd ((by rw [hg]; exact (below_size (by repeat (first | (with_reducible first | exact HB.out | apply wa | apply wn | apply wd) | exact HB.out))) : w.heap.size ≤ gb349)); clear HB; have HB := n0_; have BK349 := n1_; have GW349 := n2_; have GE349 := n3_; clear n0_ n1_ n2_ n3_; clear hb hbox hg; have hcz33_0 : w32.cell? ⟨gb349, 0, none⟩ = some (.bool false) := (blk_cell BK349.out 0).trans rfl; have hcz33_1 : w32.cell? ⟨gb349, 1, none⟩ = some (.int .i64 a0_1) := (blk_cell BK349.out 1).trans rfl; have hcz33_2 : w32.cell? ⟨gb349, 2, none⟩ = some (.int .i64 a0_2) := (blk_cell BK349.out 2).trans rfl; have hcz33_3 : w32.cell? ⟨gb349, 3, none⟩ = some (.int .i64 a0_3) := (blk_cell BK349.out 3).trans rfl; have hcz33_4 : w32.cell? ⟨gb349, 4, none⟩ = some (.int .i64 a0_4) := (blk_cell BK349.out 4).trans rfl; have hcz33_5 : w32.cell? ⟨gb349, 5, none⟩ = some (.int .i64 a0_5) := (blk_cell BK349.out 5).trans rfl; have hfz33_0 := blk_frozen BK349.out 0; have hfz33_1 := blk_frozen BK349.out 1; have hfz33_2 := blk_frozen BK349.out 2; have hfz33_3 := blk_frozen BK349.out 3; have hfz33_4 := blk_frozen BK349.out 4; have hfz33_5 := blk_frozen BK349.out 5))
           go_ret
           exact ⟨by first | rfl | (simp [*] <;> rfl), by repeat (first | (with_reducible first | exact HB.out | apply wa | apply wn | apply wd | refine ws ?_ GE349.out) | exact HB.out)⟩
end Go.Proofs.Ytmjhnmdmopmfjaa.Fn
namespace Go.Proofs.Ytmjhnmdmopmfjaa.Fn
open Go.RowKit Go.Proofs.YtmjhnmdmopmfjaaW.PrintWords Go.Proofs.YtmjhnmdmopmfjaaW.PrintLast Go.Proofs.YtmjhnmdmopmfjaaW.PrintMore
attribute [local go_sem] max2_int min2_int max_two min_two max_three min_three max_four min_four
set_option linter.unusedVariables false
set_option linter.unusedSimpArgs false
def parcloseref03_RightServer.f (a0_0 : Bool) (a0_1 : Int) (a0_2 : Int) : Option (Bool) := if a0_1 ≥ 1 then (if a0_1 ≤ a0_2 then (some (decide (a0_2 ≤ 1000))) else (some false)) else (some false)
set_option maxHeartbeats 8000000 in
set_option maxRecDepth 100000 in
theorem parcloseref03_RightServer.calls (a0_0 : Bool) (a0_1 : Int) (a0_2 : Int) (r : Bool) (w : World) (h : parcloseref03_RightServer.f a0_0 a0_1 a0_2 = some r) :
  Calls Try.prog 29 #[.agg #[.bool a0_0, .int .i64 a0_1, .int .i64 a0_2]] w fun e w' => e = .returned (.bool r) ∧ Below w.heap.size w w' := by
 have hu57 := Try.underlying57
 have HB := asd (Below.refl w.heap.size w)
 have H : (if a0_1 ≥ 1 then (if a0_1 ≤ a0_2 then (some (decide (a0_2 ≤ 1000))) else (some false)) else (some false)) = some r := h
 clear h
 by_cases c2 : a0_1 ≥ 1
 ·rw [if_pos c2] at H
  have c2b0 : decide (1 ≤ a0_1) = true := decide_eq_true c2
  clear c2
  by_cases c3 : a0_1 ≤ a0_2
  ·rw [if_pos c3] at H
   have c3b0 : decide (a0_1 ≤ a0_2) = true := decide_eq_true c3
   clear c3
   obtain rfl := Option.some.inj H
   go_enter Try.func29, Try.ntmps29
   go_wp2_with (first | ((with_reducible refine gate_dst (N := 1) rfl ?_); refine box_event ?hg (N := 1) ?hd (cs := #[.bool a0_0, .int .i64 a0_1, .int .i64 a0_2]) (t := 57) ?hr ?_; (case hd => rfl); (case hg => rfl); (case hr => first | (go_simp; done) | (go_simp; rfl)); intro gb350 hg w4 hbox hb; have n0_ := asd (below_step (by repeat (first | (with_reducible first | exact HB.out | apply wa | apply wn | apply wd) | exact HB.out)) hb); have n1_ := asd (hbox); have n2_ := asd ((by rw [hg]; exact (below_size (by repeat (first | (with_reducible first | exact HB.out | apply wa | apply wn | apply wd) | exact HB.out))) : w.heap.size ≤ gb350)); have n3_ := asd ((by rw [hg]; exact (below_size (by repeat (first | (with_reducible first | exact HB.out | apply wa | apply wn | apply wd) | exact HB.out))) : w.heap.size ≤ gb350)); clear HB; have HB := n0_; have BK350 := n1_; have GW350 := n2_; have GE350 := n3_; clear n0_ n1_ n2_ n3_; clear hb hbox hg; have hcz5_0 : w4.cell? ⟨gb350, 0, none⟩ = some (.bool a0_0) := (blk_cell BK350.out 0).trans rfl; have hcz5_1 : w4.cell? ⟨gb350, 1, none⟩ = some (.int .i64 a0_1) := (blk_cell BK350.out 1).trans rfl; have hcz5_2 : w4.cell? ⟨gb350, 2, none⟩ = some (.int .i64 a0_2) := (blk_cell BK350.out 2).trans rfl; have hfz5_0 := blk_frozen BK350.out 0; have hfz5_1 := blk_frozen BK350.out 1; have hfz5_2 := blk_frozen BK350.out 2))
   go_ret
   exact ⟨by first | rfl | (simp [*] <;> rfl), by repeat (first | (with_reducible first | exact HB.out | apply wa | apply wn | apply wd | refine ws ?_ GE350.out) | exact HB.out)⟩
  ·rw [if_neg c3] at H
   have c3b0 : decide (a0_1 ≤ a0_2) = false := decide_eq_false c3
   clear c3
   obtain rfl := Option.some.inj H
   go_enter Try.func29, Try.ntmps29
   go_wp2_with (first | ((with_reducible refine gate_dst (N := 1) rfl ?_); refine box_event ?hg (N := 1) ?hd (cs := #[.bool a0_0, .int .i64 a0_1, .int .i64 a0_2]) (t := 57) ?hr ?_; (case hd => rfl); (case hg => rfl); (case hr => first | (go_simp; done) | (go_simp; rfl)); intro gb350 hg w6 hbox hb; have n0_ := asd (below_step (by repeat (first | (with_reducible first | exact HB.out | apply wa | apply wn | apply wd) | exact HB.out)) hb); have n1_ := asd (hbox); have n2_ := asd ((by rw [hg]; exact (below_size (by repeat (first | (with_reducible first | exact HB.out | apply wa | apply wn | apply wd) | exact HB.out))) : w.heap.size ≤ gb350)); have n3_ := asd ((by rw [hg]; exact (below_size (by repeat (first | (with_reducible first | exact HB.out | apply wa | apply wn | apply wd) | exact HB.out))) : w.heap.size ≤ gb350)); clear HB; have HB := n0_; have BK350 := n1_; have GW350 := n2_; have GE350 := n3_; clear n0_ n1_ n2_ n3_; clear hb hbox hg; have hcz7_0 : w6.cell? ⟨gb350, 0, none⟩ = some (.bool a0_0) := (blk_cell BK350.out 0).trans rfl; have hcz7_1 : w6.cell? ⟨gb350, 1, none⟩ = some (.int .i64 a0_1) := (blk_cell BK350.out 1).trans rfl; have hcz7_2 : w6.cell? ⟨gb350, 2, none⟩ = some (.int .i64 a0_2) := (blk_cell BK350.out 2).trans rfl; have hfz7_0 := blk_frozen BK350.out 0; have hfz7_1 := blk_frozen BK350.out 1; have hfz7_2 := blk_frozen BK350.out 2))
   go_ret
   exact ⟨by first | rfl | (simp [*] <;> rfl), by repeat (first | (with_reducible first | exact HB.out | apply wa | apply wn | apply wd | refine ws ?_ GE350.out) | exact HB.out)⟩
 ·rw [if_neg c2] at H
  have c2b0 : decide (1 ≤ a0_1) = false := decide_eq_false c2
  clear c2
  obtain rfl := Option.some.inj H
  go_enter Try.func29, Try.ntmps29
  go_wp2_with (first | ((with_reducible refine gate_dst (N := 1) rfl ?_); refine box_event ?hg (N := 1) ?hd (cs := #[.bool a0_0, .int .i64 a0_1, .int .i64 a0_2]) (t := 57) ?hr ?_; (case hd => rfl); (case hg => rfl); (case hr => first | (go_simp; done) | (go_simp; rfl)); intro gb350 hg w8 hbox hb; have n0_ := asd (below_step (by repeat (first | (with_reducible first | exact HB.out | apply wa | apply wn | apply wd) | exact HB.out)) hb); have n1_ := asd (hbox); have n2_ := asd ((by rw [hg]; exact (below_size (by repeat (first | (with_reducible first | exact HB.out | apply wa | apply wn | apply wd) | exact HB.out))) : w.heap.size ≤ gb350)); have n3_ := asd ((by rw [hg]; exact (below_size (by repeat (first | (with_reducible first | exact HB.out | apply wa | apply wn | apply wd) | exact HB.out))) : w.heap.size ≤ gb350)); clear HB; have HB := n0_; have BK350 := n1_; have GW350 := n2_; have GE350 := n3_; clear n0_ n1_ n2_ n3_; clear hb hbox hg; have hcz9_0 : w8.cell? ⟨gb350, 0, none⟩ = some (.bool a0_0) := (blk_cell BK350.out 0).trans rfl; have hcz9_1 : w8.cell? ⟨gb350, 1, none⟩ = some (.int .i64 a0_1) := (blk_cell BK350.out 1).trans rfl; have hcz9_2 : w8.cell? ⟨gb350, 2, none⟩ = some (.int .i64 a0_2) := (blk_cell BK350.out 2).trans rfl; have hfz9_0 := blk_frozen BK350.out 0; have hfz9_1 := blk_frozen BK350.out 1; have hfz9_2 := blk_frozen BK350.out 2))
  go_ret
  exact ⟨by first | rfl | (simp [*] <;> rfl), by repeat (first | (with_reducible first | exact HB.out | apply wa | apply wn | apply wd | refine ws ?_ GE350.out) | exact HB.out)⟩
end Go.Proofs.Ytmjhnmdmopmfjaa.Fn
namespace Go.Proofs.Ytmjhnmdmopmfjaa.Fn
open Go.RowKit Go.Proofs.YtmjhnmdmopmfjaaW.PrintWords Go.Proofs.YtmjhnmdmopmfjaaW.PrintLast Go.Proofs.YtmjhnmdmopmfjaaW.PrintMore
set_option linter.unusedVariables false
set_option linter.unusedSimpArgs false
def conf_Part_Rights.f (k : Nat) (l0_0 : List S51) (l0_1 : List S53) (l0_2 : List Int) (a0_3 a0_4 a0_5 : Int) : Option Int :=
 (conf_Task_58.f k l0_0 6).bind fun t => if t = true then ((conf_Server_59.f k l0_1 3).bind fun t1 => if t1 = true then ((slices_Max_uint8_uint8.f k [a0_3, a0_4, a0_5]).bind fun m => some (if 2 < m then 26 else 0)) else some 23) else some 22
theorem C_three {w : World} {g t : Nat} {c0 c1 c2 : Value} {a b c : Int} (h : w.heap[g]? = some (.cells #[c0, c1, c2, .int .u8 a, .int .u8 b, .int .u8 c] t (0, 0))) : Kd.C (Kd.int .u8) w (some ⟨g, 3, none⟩) [a, b, c].length [a, b, c] := by
 refine ⟨rfl, by simp, fun _ => ⟨_, rfl, ?_⟩⟩
 have h3 := (blk_cell h 3).trans rfl
 have h4 := (blk_cell h 4).trans rfl
 have h5 := (blk_cell h 5).trans rfl
 intro j p hp
 match j with
 | 0 => cases hp; exact ⟨[.int .u8 a], rfl, rfl, fun i u hu => by
   match i with
   | 0 => cases hu; exact h3⟩
 | 1 => cases hp; exact ⟨[.int .u8 b], rfl, rfl, fun i u hu => by
   match i with
   | 0 => cases hu; exact h4⟩
 | 2 => cases hp; exact ⟨[.int .u8 c], rfl, rfl, fun i u hu => by
   match i with
   | 0 => cases hu; exact h5⟩
set_option maxHeartbeats 4000000 in
set_option maxRecDepth 100000 in
theorem conf_Part_Rights.calls (k : Nat) (A0_0 : Option Addr) (c0_0 : Nat) (l0_0 : List S51) (A0_1 : Option Addr) (c0_1 : Nat) (l0_1 : List S53) (A0_2 : Option Addr) (c0_2 : Nat) (l0_2 : List Int) (a0_3 a0_4 a0_5 : Int) (r : Int) (w : World) (hr0_0 : Kd.C k51 w A0_0 l0_0.length l0_0) (hc0_0 : l0_0.length ≤ c0_0) (hr0_1 : Kd.C k53 w A0_1 l0_1.length l0_1) (hc0_1 : l0_1.length ≤ c0_1) (hr0_2 : Kd.C (Kd.int .i64) w A0_2 l0_2.length l0_2) (hc0_2 : l0_2.length ≤ c0_2) (h : conf_Part_Rights.f k l0_0 l0_1 l0_2 a0_3 a0_4 a0_5 = some r) :
  Calls Try.prog 32 #[.agg #[.slice A0_0 l0_0.length c0_0, .slice A0_1 l0_1.length c0_1, .slice A0_2 l0_2.length c0_2, .int .u8 a0_3, .int .u8 a0_4, .int .u8 a0_5]] w fun e w' => e = .returned (.int .i64 r) ∧ Below w.heap.size w w' := by
 have hu := Try.underlying49
 have hu47 := Try.underlying47
 have H0 := asd hr0_0
 have H1 := asd hr0_1
 have C0 := asd hc0_0
 have C1 := asd hc0_1
 clear hr0_0 hr0_1 hr0_2 hc0_0 hc0_1 hc0_2
 unfold conf_Part_Rights.f at h
 obtain ⟨t, ht, h⟩ := Option.bind_eq_some_iff.1 h
 have HT := asd ht
 clear ht
 have hb0 := heap_alloc_new w (.cells #[Value.slice A0_0 l0_0.length c0_0, .slice A0_1 l0_1.length c0_1, .slice A0_2 l0_2.length c0_2, .int .u8 a0_3, .int .u8 a0_4, .int .u8 a0_5] 49)
 have X0 := asd hb0
 clear hb0
 cases t with
 | false =>
  obtain rfl := Option.some.inj h
  clear h
  go_enter Try.func32, Try.ntmps32
  go_wp2_with (first | (go_at_call 58; refine (conf_Task_58.calls k _ _ l0_0 6 false _ ?s1 ?s2 HT.out).mono ?_; (case s1 => exact Kd.C_alloc H0.out _); (case s2 => exact C0.out); rintro e w1 ⟨rfl, hb⟩; have HB := asd (below_then (below_alloc (Below.refl _ _) _) (by simp) hb : Below w.heap.size w w1); clear hb))
  go_ret
  exact ⟨rfl, HB.out⟩
 | true =>
  obtain ⟨t1, ht1, h⟩ := Option.bind_eq_some_iff.1 (by simpa using h)
  have HT1 := asd ht1
  clear ht1
  cases t1 with
  | false =>
   obtain rfl := Option.some.inj (by simpa using h)
   clear h
   go_enter Try.func32, Try.ntmps32
   go_wp2_with fail
   refine (conf_Task_58.calls k _ _ l0_0 6 true _ ?s1 ?s2 HT.out).mono ?_
   case s1 => exact Kd.C_alloc H0.out _
   case s2 => exact C0.out
   rintro e w1 ⟨rfl, hb⟩
   have X1 := asd (blk_below X0.out hb)
   have HB := asd (below_then (below_alloc (Below.refl _ _) _) (by simp) hb : Below w.heap.size w w1)
   clear hb
   have hx0 := (blk_cell X1.out 0).trans rfl
   have hx1 := (blk_cell X1.out 1).trans rfl
   go_wp2_with (first | (go_at_call 59; refine (conf_Server_59.calls k _ _ l0_1 3 false _ ?s1 ?s2 HT1.out).mono ?_; (case s1 => exact Kd.C_below H1.out HB.out); (case s2 => exact C1.out); rintro e w2 ⟨rfl, hb⟩; have HB2 := asd (below_step HB.out hb); clear hb))
   go_ret
   exact ⟨rfl, HB2.out⟩
  | true =>
   obtain ⟨m, hm, h⟩ := Option.bind_eq_some_iff.1 (by simpa using h)
   have HM := asd hm
   obtain rfl := Option.some.inj h
   clear h hm
   by_cases c : 2 < m
   ·rw [if_pos c]
    have cb : decide (2 < m) = true := decide_eq_true c
    clear c
    go_enter Try.func32, Try.ntmps32
    go_wp2_with fail
    refine (conf_Task_58.calls k _ _ l0_0 6 true _ ?s1 ?s2 HT.out).mono ?_
    case s1 => exact Kd.C_alloc H0.out _
    case s2 => exact C0.out
    rintro e w1 ⟨rfl, hb⟩
    have X1 := asd (blk_below X0.out hb)
    have HB := asd (below_then (below_alloc (Below.refl _ _) _) (by simp) hb : Below w.heap.size w w1)
    clear hb
    have hx0 := (blk_cell X1.out 0).trans rfl
    have hx1 := (blk_cell X1.out 1).trans rfl
    go_wp2_with fail
    refine (conf_Server_59.calls k _ _ l0_1 3 true _ ?s1 ?s2 HT1.out).mono ?_
    case s1 => exact Kd.C_below H1.out HB.out
    case s2 => exact C1.out
    rintro e w2 ⟨rfl, hb⟩
    have X2 := asd (blk_below X1.out hb)
    have HB2 := asd (below_step HB.out hb)
    clear hb hx0 hx1
    go_wp2_with fail
    refine (slices_Max_uint8_uint8.calls k (some ⟨w.heap.size, 3, none⟩) 3 [a0_3, a0_4, a0_5] m _ (C_three X2.out) (by simp) HM.out).mono ?_
    rintro e w3 ⟨rfl, hb⟩
    have HB3 := asd (below_step HB2.out hb)
    clear hb
    go_wp2
    go_ret
    exact ⟨rfl, HB3.out⟩
   ·rw [if_neg c]
    have cb : decide (2 < m) = false := decide_eq_false c
    clear c
    go_enter Try.func32, Try.ntmps32
    go_wp2_with fail
    refine (conf_Task_58.calls k _ _ l0_0 6 true _ ?s1 ?s2 HT.out).mono ?_
    case s1 => exact Kd.C_alloc H0.out _
    case s2 => exact C0.out
    rintro e w1 ⟨rfl, hb⟩
    have X1 := asd (blk_below X0.out hb)
    have HB := asd (below_then (below_alloc (Below.refl _ _) _) (by simp) hb : Below w.heap.size w w1)
    clear hb
    have hx0 := (blk_cell X1.out 0).trans rfl
    have hx1 := (blk_cell X1.out 1).trans rfl
    go_wp2_with fail
    refine (conf_Server_59.calls k _ _ l0_1 3 true _ ?s1 ?s2 HT1.out).mono ?_
    case s1 => exact Kd.C_below H1.out HB.out
    case s2 => exact C1.out
    rintro e w2 ⟨rfl, hb⟩
    have X2 := asd (blk_below X1.out hb)
    have HB2 := asd (below_step HB.out hb)
    clear hb hx0 hx1
    go_wp2_with fail
    refine (slices_Max_uint8_uint8.calls k (some ⟨w.heap.size, 3, none⟩) 3 [a0_3, a0_4, a0_5] m _ (C_three X2.out) (by simp) HM.out).mono ?_
    rintro e w3 ⟨rfl, hb⟩
    have HB3 := asd (below_step HB2.out hb)
    clear hb
    go_wp2
    go_ret
    exact ⟨rfl, HB3.out⟩
def rtB (x : S56) : Bool := (parcloseref03_RightTask.f x.f0 x.f1 x.f2 x.f3 x.f4 x.f5).getD false
def rsB (x : S57) : Bool := (parcloseref03_RightServer.f x.f0 x.f1 x.f2).getD false
theorem rt_f (x : S56) : parcloseref03_RightTask.f x.f0 x.f1 x.f2 x.f3 x.f4 x.f5 = some (rtB x) := by
 unfold rtB parcloseref03_RightTask.f
 repeat' first | rfl | split
theorem rs_f (x : S57) : parcloseref03_RightServer.f x.f0 x.f1 x.f2 = some (rsB x) := by
 unfold rsB parcloseref03_RightServer.f
 repeat' first | rfl | split
def parcloseref03_Rights.f (l0 : List S56) (l1 : List S57) (l2 : List Int) (a b c : Int) : Option Int :=
 if l0.length < 1000 ∧ l1.length < 1000 then some (if 6 < l0.length then 22 else if l0.all rtB = false then 22 else if 3 < l1.length then 23 else if l1.all rsB = false then 23 else if 2 < a then 26 else if 2 < b then 26 else if 2 < c then 26 else 0) else none
theorem all_take {α : Type} (p : α → Bool) (l : List α) (i : Nat) (h : i < l.length) (z : α) : (l.take (i + 1)).all p = ((l.take i).all p && p (l.getD i z)) := by
 rw [List.take_succ_eq_append_getElem h, List.all_append]
 simp [List.getD, h]
theorem all_no {α : Type} (p : α → Bool) (l : List α) (i : Nat) (h : i < l.length) (z : α) (hp : p (l.getD i z) = false) : l.all p = false := by
 rw [List.all_eq_false]
 exact ⟨l[i], List.getElem_mem h, by simpa [List.getD, h] using hp⟩
section
variable (A0_0 : Option Addr) (c0_0 : Nat) (l0_0 : List S56) (A0_1 : Option Addr) (c0_1 : Nat) (l0_1 : List S57) (A0_2 : Option Addr) (c0_2 : Nat) (l0_2 : List Int) (a0_3 a0_4 a0_5 : Int)
set_option maxHeartbeats 8000000 in
set_option maxRecDepth 100000 in
theorem parcloseref03_Rights.calls (r : Int) (w : World) (hr0_0 : Kd.C k56 w A0_0 l0_0.length l0_0) (hc0_0 : l0_0.length ≤ c0_0) (hr0_1 : Kd.C k57 w A0_1 l0_1.length l0_1) (hc0_1 : l0_1.length ≤ c0_1) (hr0_2 : Kd.C (Kd.int .i64) w A0_2 l0_2.length l0_2) (hc0_2 : l0_2.length ≤ c0_2) (h : parcloseref03_Rights.f l0_0 l0_1 l0_2 a0_3 a0_4 a0_5 = some r) :
  Calls Try.prog 33 #[.agg #[.slice A0_0 l0_0.length c0_0, .slice A0_1 l0_1.length c0_1, .slice A0_2 l0_2.length c0_2, .int .u8 a0_3, .int .u8 a0_4, .int .u8 a0_5]] w fun e w' => e = .returned (.int .i64 r) ∧ Below w.heap.size w w' := by
 have hu := Try.underlying61
 have hu47 := Try.underlying47
 have H0 := asd hr0_0
 have H1 := asd hr0_1
 clear hr0_0 hr0_1 hr0_2 hc0_0 hc0_1 hc0_2
 unfold parcloseref03_Rights.f at h
 by_cases hs : l0_0.length < 1000 ∧ l0_1.length < 1000
 case neg => rw [if_neg hs] at h; cases h
 rw [if_pos hs] at h
 have HS := asd hs
 clear hs
 have HH := asd (Option.some.inj h)
 clear h
 have X0 := asd (heap_alloc_new w (.cells #[Value.slice A0_0 l0_0.length c0_0, .slice A0_1 l0_1.length c0_1, .slice A0_2 l0_2.length c0_2, .int .u8 a0_3, .int .u8 a0_4, .int .u8 a0_5] 61))
 by_cases c6 : 6 < l0_0.length
 ·obtain rfl : 22 = r := by have := HH.out; rwa [if_pos c6] at this
  have cb : decide ((6 : Int) < (l0_0.length : Int)) = true := by simp; omega
  have cc : decide (6 < l0_0.length) = true := by simp; omega
  clear c6 HH
  go_enter Try.func33, Try.ntmps33
  go_wp2
  go_ret
  exact ⟨rfl, below_alloc (Below.refl _ _) _⟩
 have cb : decide ((6 : Int) < (l0_0.length : Int)) = false := by simp; omega
 have cc : decide (6 < l0_0.length) = false := by simp; omega
 have HH2 := asd (by have := HH.out; rwa [if_neg c6] at this)
 clear HH c6
 have HH := HH2
 clear HH2
 go_enter Try.func33, Try.ntmps33
 go_wp2
 go_loopw [3] (fun v wr => ∃ x : Int, v = .int .i64 x ∧ Aside0 (0 ≤ x ∧ x ≤ l0_0.length ∧ (l0_0.take x.toNat).all rtB = true) ∧ Aside0 (Below w.heap.size w wr) ∧ Aside0 (wr.heap[w.heap.size]? = some (.cells #[Value.slice A0_0 l0_0.length c0_0, .slice A0_1 l0_1.length c0_1, .slice A0_2 l0_2.length c0_2, .int .u8 a0_3, .int .u8 a0_4, .int .u8 a0_5] 61 (0, 0)))) (fun v _ => l0_0.length - (intOf v).toNat)
 case atStart => exact ⟨0, rfl, ⟨by omega, by omega, rfl⟩, ⟨below_alloc (Below.refl _ _) _⟩, X0⟩
 case round =>
  obtain ⟨x, rfl, HX, HB, XB⟩ := hrel
  clear X0
  have h0 : 0 ≤ x := HX.out.1
  have h9 : x ≤ 1000 := by have := HX.out.2.1; have := HS.out; omega
  have hx0 := (blk_cell XB.out 0).trans rfl
  have hx1 := (blk_cell XB.out 1).trans rfl
  have hx2 := (blk_cell XB.out 2).trans rfl
  have hx3 := (blk_cell XB.out 3).trans rfl
  have hx4 := (blk_cell XB.out 4).trans rfl
  have hx5 := (blk_cell XB.out 5).trans rfl
  by_cases hlt : x < (l0_0.length : Int)
  ·have p1 : (0 ≤ x) = True := eq_true h0
   have q1 : (x < (l0_0.length : Int)) = True := eq_true hlt
   have ALL := asd (show (l0_0.take (x + 1).toNat).all rtB = rtB (rd_T56 l0_0 x) by
    have e : (x + 1).toNat = x.toNat + 1 := by omega
    rw [e, all_take rtB l0_0 x.toNat (by omega) z56, HX.out.2.2]
    simp [rd_T56])
   obtain ⟨ad, rfl, y0, y1, y2, y3, y4, y5⟩ := at_T56 (Kd.C_below H0.out HB.out) x h0 hlt
   cases hb : rtB (rd_T56 l0_0 x) with
   | false =>
    have HF := asd ((rt_f (rd_T56 l0_0 x)).trans (congrArg some hb))
    obtain rfl : 22 = r := by
     have := HH.out
     rwa [if_pos (all_no rtB l0_0 x.toNat (by omega) z56 (by simpa [rd_T56] using hb))] at this
    clear hb HH ALL
    go_wp2_with (first | (go_at_call 27; refine (parcloseref03_RightTask.calls _ _ _ _ _ _ false _ HF.out).mono ?_; rintro e w1 ⟨rfl, hb⟩; have HB1 := asd (below_step HB.out hb); clear hb))
    go_ret
    exact ⟨rfl, HB1.out⟩
   | true =>
    have HF := asd ((rt_f (rd_T56 l0_0 x)).trans (congrArg some hb))
    have ALL2 := asd (ALL.out.trans hb)
    clear hb ALL
    go_wp2_with (first | (go_at_call 27; refine (parcloseref03_RightTask.calls _ _ _ _ _ _ true _ HF.out).mono ?_; rintro e w1 ⟨rfl, hb⟩; have HB1 := asd (below_step HB.out hb); have XB1 := asd (blk_below XB.out hb); clear hb))
    go_roundw
    case rel => exact ⟨x + 1, rfl, ⟨by omega, by omega, ALL2.out⟩, HB1, XB1⟩
    case measure => simp [intOf]; omega
  ·have hq : decide (x < (l0_0.length : Int)) = false := decide_eq_false hlt
   have ALL := asd (show l0_0.all rtB = true by have h1 := HX.out; rw [List.take_of_length_le (by omega)] at h1; exact h1.2.2)
   have HH2 := asd (by have := HH.out; rwa [if_neg (by rw [ALL.out]; decide)] at this)
   clear HH hlt HX ALL h0 h9
   by_cases c3 : 3 < l0_1.length
   ·obtain rfl : 23 = r := by have := HH2.out; rwa [if_pos c3] at this
    have cb1 : decide ((3 : Int) < (l0_1.length : Int)) = true := by simp; omega
    have cc1 : decide (3 < l0_1.length) = true := by simp; omega
    clear c3 HH2
    go_wp2
    go_ret
    exact ⟨rfl, HB.out⟩
   have cb1 : decide ((3 : Int) < (l0_1.length : Int)) = false := by simp; omega
   have cc1 : decide (3 < l0_1.length) = false := by simp; omega
   have HH := asd (by have := HH2.out; rwa [if_neg c3] at this)
   clear HH2 c3
   go_wp2
   obtain ⟨wo, rfl⟩ : ∃ wo : World, wo = wr := ⟨_, rfl⟩
   clear hx0 hx1 hx2 hx3 hx4 hx5
   go_loopw [4] (fun v wr => ∃ x : Int, v = .int .i64 x ∧ Aside0 (0 ≤ x ∧ x ≤ l0_1.length ∧ (l0_1.take x.toNat).all rsB = true) ∧ Aside0 (Below w.heap.size w wr) ∧ Aside0 (wr.heap[w.heap.size]? = some (.cells #[Value.slice A0_0 l0_0.length c0_0, .slice A0_1 l0_1.length c0_1, .slice A0_2 l0_2.length c0_2, .int .u8 a0_3, .int .u8 a0_4, .int .u8 a0_5] 61 (0, 0)))) (fun v _ => l0_1.length - (intOf v).toNat)
   case atStart => exact ⟨0, rfl, ⟨by omega, by omega, rfl⟩, HB, XB⟩
   case round =>
    obtain ⟨x2, rfl, HX, HB2, XB2⟩ := hrel
    have h0 : 0 ≤ x2 := HX.out.1
    have h9 : x2 ≤ 1000 := by have := HX.out.2.1; have := HS.out; omega
    have hx0 := (blk_cell XB2.out 0).trans rfl
    have hx1 := (blk_cell XB2.out 1).trans rfl
    have hx2 := (blk_cell XB2.out 2).trans rfl
    have hx3 := (blk_cell XB2.out 3).trans rfl
    have hx4 := (blk_cell XB2.out 4).trans rfl
    have hx5 := (blk_cell XB2.out 5).trans rfl
    by_cases hlt : x2 < (l0_1.length : Int)
    ·have p1 : (0 ≤ x2) = True := eq_true h0
     have q1 : (x2 < (l0_1.length : Int)) = True := eq_true hlt
     have ALL := asd (show (l0_1.take (x2 + 1).toNat).all rsB = rsB (rd_T57 l0_1 x2) by
      have e : (x2 + 1).toNat = x2.toNat + 1 := by omega
      rw [e, all_take rsB l0_1 x2.toNat (by omega) z57, HX.out.2.2]
      simp [rd_T57])
     obtain ⟨ad, rfl, y0, y1, y2⟩ := at_T57 (Kd.C_below H1.out HB2.out) x2 h0 hlt
     cases hb : rsB (rd_T57 l0_1 x2) with
     | false =>
      have HF := asd ((rs_f (rd_T57 l0_1 x2)).trans (congrArg some hb))
      obtain rfl : 23 = r := by
       have := HH.out
       rwa [if_pos (all_no rsB l0_1 x2.toNat (by omega) z57 (by simpa [rd_T57] using hb))] at this
      clear hb HH ALL
      go_wp2_with (first | (go_at_call 29; refine (parcloseref03_RightServer.calls _ _ _ false _ HF.out).mono ?_; rintro e w1 ⟨rfl, hb⟩; have HB1 := asd (below_step HB2.out hb); clear hb))
      go_ret
      exact ⟨rfl, HB1.out⟩
     | true =>
      have HF := asd ((rs_f (rd_T57 l0_1 x2)).trans (congrArg some hb))
      have ALL2 := asd (ALL.out.trans hb)
      clear hb ALL
      go_wp2_with (first | (go_at_call 29; refine (parcloseref03_RightServer.calls _ _ _ true _ HF.out).mono ?_; rintro e w1 ⟨rfl, hb⟩; have HB1 := asd (below_step HB2.out hb); have XB1 := asd (blk_below XB2.out hb); clear hb))
      go_roundw
      case rel => exact ⟨x2 + 1, rfl, ⟨by omega, by omega, ALL2.out⟩, HB1, XB1⟩
      case measure => simp [intOf]; omega
    ·have hq2 : decide (x2 < (l0_1.length : Int)) = false := decide_eq_false hlt
     have ALL := asd (show l0_1.all rsB = true by have h1 := HX.out; rw [List.take_of_length_le (by omega)] at h1; exact h1.2.2)
     have HH2 := asd (by have := HH.out; rwa [if_neg (by rw [ALL.out]; decide)] at this)
     clear HH hlt HX ALL h0 h9
     go_wp2
     obtain ⟨wp, rfl⟩ : ∃ wp : World, wp = wr := ⟨_, rfl⟩
     go_loopw [5] (fun v wr => ∃ x : Int, v = .int .i64 x ∧ Aside0 ((x = 0 ∨ x = 1 ∧ a0_3 ≤ 2 ∨ x = 2 ∧ a0_3 ≤ 2 ∧ a0_4 ≤ 2 ∨ x = 3 ∧ a0_3 ≤ 2 ∧ a0_4 ≤ 2 ∧ a0_5 ≤ 2) ∧ wr = wp)) (fun v _ => 3 - (intOf v).toNat)
     case atStart => exact ⟨0, rfl, ⟨Or.inl rfl, rfl⟩⟩
     case round =>
      obtain ⟨x3, rfl, HX3⟩ := hrel
      obtain ⟨hx3, hw⟩ := HX3.out
      clear HX3
      rcases hx3 with rfl | ⟨rfl, c30⟩ | ⟨rfl, c30, c31⟩ | ⟨rfl, c30, c31, c32⟩
      ·obtain rfl := hw
       by_cases c : 2 < a0_3
       ·obtain rfl : 26 = r := by have := HH2.out; (repeat' split at this) <;> omega
        have cb3 : decide (2 < a0_3) = true := decide_eq_true c
        clear HH2 c
        go_wp2
        go_ret
        exact ⟨rfl, HB2.out⟩
       ·have cb3 : decide (2 < a0_3) = false := decide_eq_false c
        go_wp2
        go_roundw
        case rel => exact ⟨1, rfl, ⟨by omega, trivial⟩⟩
        case measure => simp [intOf]
      ·obtain rfl := hw
       by_cases c : 2 < a0_4
       ·obtain rfl : 26 = r := by have := HH2.out; (repeat' split at this) <;> omega
        have cb3 : decide (2 < a0_4) = true := decide_eq_true c
        clear HH2 c
        go_wp2
        go_ret
        exact ⟨rfl, HB2.out⟩
       ·have cb3 : decide (2 < a0_4) = false := decide_eq_false c
        go_wp2
        go_roundw
        case rel => exact ⟨2, rfl, ⟨by omega, trivial⟩⟩
        case measure => simp [intOf]
      ·obtain rfl := hw
       by_cases c : 2 < a0_5
       ·obtain rfl : 26 = r := by have := HH2.out; (repeat' split at this) <;> omega
        have cb3 : decide (2 < a0_5) = true := decide_eq_true c
        clear HH2 c
        go_wp2
        go_ret
        exact ⟨rfl, HB2.out⟩
       ·have cb3 : decide (2 < a0_5) = false := decide_eq_false c
        go_wp2
        go_roundw
        case rel => exact ⟨3, rfl, ⟨by omega, trivial⟩⟩
        case measure => simp [intOf]
      ·obtain rfl := hw
       obtain rfl : 0 = r := by have := HH2.out; (repeat' split at this) <;> omega
       clear HH2
       go_wp2
       go_ret
       exact ⟨rfl, HB2.out⟩
end
end Go.Proofs.Ytmjhnmdmopmfjaa.Fn
namespace Go.Proofs.Ytmjhnmdmopmfjaa.Fn
open Go.RowKit Go.Proofs.YtmjhnmdmopmfjaaW.PrintWords Go.Proofs.YtmjhnmdmopmfjaaW.PrintLast Go.Proofs.YtmjhnmdmopmfjaaW.PrintMore
set_option linter.unusedVariables false
set_option linter.unusedSimpArgs false
def Opens (P : Program) (t : TypeId) {α : Type} (d : Kd α) (Q : α → Prop) : Prop :=
 ∀ (H : Type) (enc : TypeId × Value → H) (w : World) (base : Nat) (spare : Nat → Bool) (held : Bool) (fuel : Nat) (cs : List Value) (x : DataW H × List MemPlace),
  DataW.trod enc P w base spare held fuel t cs = some x → ∃ a : α, d.K w a cs ∧ Q a
def qInt (k : IntKind) (n : Int) : Prop := (Lit.int k n).wf = true
def qAny {α : Type} (_ : α) : Prop := True
def qStr (s : ByteArray) : Prop := s.size ≤ maxLen
def qList {α : Type} (Q : α → Prop) (xs : List α) : Prop := xs.length ≤ maxLen ∧ ∀ x ∈ xs, Q x
theorem opens_int {P : Program} {t : TypeId} {k : IntKind} (ht : P.underlying t = some (.int k)) : Opens P t (Kd.int k) (qInt k) := by
 intro H enc w base spare held fuel cs x h
 obtain ⟨n, e, _, hw⟩ := DataW.trod_int ht h
 exact ⟨n, e, hw⟩
theorem opens_bool {P : Program} {t : TypeId} (ht : P.underlying t = some .bool) : Opens P t Kd.bool qAny := by
 intro H enc w base spare held fuel cs x h
 obtain ⟨n, e, _⟩ := DataW.trod_bool ht h
 exact ⟨n, e, trivial⟩
theorem list_of {α : Type} {p : Nat → α → Prop} : ∀ n, (∀ i, i < n → ∃ a, p i a) → ∃ xs : List α, xs.length = n ∧ ∀ i a, xs[i]? = some a → p i a
 | 0, _ => ⟨[], rfl, fun i a h => by simp at h⟩
 | n + 1, h => by
  obtain ⟨xs, hl, hx⟩ := list_of n (fun i hi => h i (by omega))
  obtain ⟨a, ha⟩ := h n (by omega)
  refine ⟨xs ++ [a], by simp [hl], fun i b hb => ?_⟩
  rcases Nat.lt_trichotomy i n with hi | hi | hi
  ·rw [List.getElem?_append_left (by omega)] at hb
   exact hx i b hb
  ·subst hi
   rw [← hl] at hb
   simp at hb
   subst hb
   rw [hl] at *
   exact ha
  ·rw [List.getElem?_eq_none (by simp [hl]; omega)] at hb
   cases hb
theorem opens_slice {P : Program} {t e : TypeId} {α : Type} {d : Kd α} {Q : α → Prop} (ht : P.underlying t = some (.slice e)) (hc : P.cellsOf e = d.sz) (ho : Opens P e d Q) : Opens P t (Kd.slice e d) (qList Q) := by
 intro H enc w base spare held fuel cs x h
 rcases Go.Deep.open_slice ht h with ⟨rfl, _⟩ | ⟨a, len, cap, m, n, D, Pl, rfl, _, hl, hm, hmm, _, hx⟩
 ·exact ⟨[], ⟨none, 0, rfl, Nat.le_refl _, Kd.C_nil _ _⟩, by simp, fun x hx => by cases hx⟩
 ·have hlm : len ≤ m := by rw [hmm]; split <;> omega
  obtain ⟨xs, hxl, hxs⟩ := list_of (p := fun i a' => ∃ cs', w.cells? base (a.add (i * P.cellsOf e)) (P.cellsOf e) = some cs' ∧ d.K w a' cs' ∧ Q a') len (fun i hi => by
   obtain ⟨cs', h1, h2⟩ := hx i (by omega)
   obtain ⟨a', h3, h4⟩ := ho H enc w base spare held n cs' _ h2
   exact ⟨a', cs', h1, h3, h4⟩)
  refine ⟨xs, ⟨some a, cap, by rw [hxl], by omega, ?_⟩, by omega, fun x hx => ?_⟩
  ·refine ⟨rfl, by rw [hxl]; unfold maxLen at hm; omega, fun _ => ⟨a, rfl, ?_⟩⟩
   intro j p hp
   obtain ⟨cs', h1, h2, _⟩ := hxs j p hp
   obtain ⟨_, hcl, hci⟩ := World.cells?_some h1
   refine ⟨cs', by rw [hcl, hc], h2, fun i u hu => ?_⟩
   have hi : i < cs'.length := (List.getElem?_eq_some_iff.1 hu).1
   have h4 := hci i (by omega)
   rw [hu, Go.Deep.add_add, hc] at h4
   exact h4
  ·obtain ⟨i, hi, rfl⟩ := List.mem_iff_getElem.1 hx
   obtain ⟨_, _, _, hq⟩ := hxs i _ (List.getElem?_eq_getElem hi)
   exact hq
end Go.Proofs.Ytmjhnmdmopmfjaa.Fn
namespace Go.Proofs.Ytmjhnmdmopmfjaa.Fn
open Go.RowKit Go.Proofs.YtmjhnmdmopmfjaaW.PrintWords Go.Proofs.YtmjhnmdmopmfjaaW.PrintLast Go.Proofs.YtmjhnmdmopmfjaaW.PrintMore
attribute [local go_sem] max2_int min2_int max_two min_two max_three min_three max_four min_four
set_option linter.unusedVariables false
set_option linter.unusedSimpArgs false
open Go.ChangeShapes Go.WideShapes
theorem cellsO3 : Try.prog.cellsOf 3 = 1 := by kernel_rfl
def q77 (x : S77) : Prop := (qInt .i64) x.f0 ∧ (qInt .i64) x.f1 ∧ (qInt .i64) x.f2
theorem cellsO4 : Try.prog.cellsOf 4 = 1 := by kernel_rfl
theorem cellsO56 : Try.prog.cellsOf 56 = 6 := by kernel_rfl
def q56 (x : S56) : Prop := qAny x.f0 ∧ (qInt .i64) x.f1 ∧ (qInt .i64) x.f2 ∧ (qInt .i64) x.f3 ∧ (qInt .i64) x.f4 ∧ (qInt .i64) x.f5
set_option maxRecDepth 100000 in
theorem opens56 : Opens Try.prog 56 k56 q56 := by
 intro H enc w base spare held fuel cs x h
 obtain ⟨xs, n, rfl, _, hlen, hxs, hf⟩ := DataW.trod_struct Try.underlying56 h
 rw [cellsO56] at hlen
 have g0 : DataW.trod enc Try.prog w base spare held n 4 ((cs.drop (0)).take (Try.prog.cellsOf 4)) = xs[0]? := hf 0 _ rfl
 rw [cellsO4] at g0
 obtain ⟨a0, K0', Q0⟩ := (opens_bool Try.underlying4) H enc w base spare held n _ _ (g0.trans (List.getElem?_eq_getElem (by rw [hxs]; decide)))
 have g1 : DataW.trod enc Try.prog w base spare held n 3 ((cs.drop (1)).take (Try.prog.cellsOf 3)) = xs[1]? := hf 1 _ rfl
 rw [cellsO3] at g1
 obtain ⟨a1, K1', Q1⟩ := (opens_int Try.underlying3) H enc w base spare held n _ _ (g1.trans (List.getElem?_eq_getElem (by rw [hxs]; decide)))
 have g2 : DataW.trod enc Try.prog w base spare held n 3 ((cs.drop (2)).take (Try.prog.cellsOf 3)) = xs[2]? := hf 2 _ rfl
 rw [cellsO3] at g2
 obtain ⟨a2, K2', Q2⟩ := (opens_int Try.underlying3) H enc w base spare held n _ _ (g2.trans (List.getElem?_eq_getElem (by rw [hxs]; decide)))
 have g3 : DataW.trod enc Try.prog w base spare held n 3 ((cs.drop (3)).take (Try.prog.cellsOf 3)) = xs[3]? := hf 3 _ rfl
 rw [cellsO3] at g3
 obtain ⟨a3, K3', Q3⟩ := (opens_int Try.underlying3) H enc w base spare held n _ _ (g3.trans (List.getElem?_eq_getElem (by rw [hxs]; decide)))
 have g4 : DataW.trod enc Try.prog w base spare held n 3 ((cs.drop (4)).take (Try.prog.cellsOf 3)) = xs[4]? := hf 4 _ rfl
 rw [cellsO3] at g4
 obtain ⟨a4, K4', Q4⟩ := (opens_int Try.underlying3) H enc w base spare held n _ _ (g4.trans (List.getElem?_eq_getElem (by rw [hxs]; decide)))
 have g5 : DataW.trod enc Try.prog w base spare held n 3 ((cs.drop (5)).take (Try.prog.cellsOf 3)) = xs[5]? := hf 5 _ rfl
 rw [cellsO3] at g5
 obtain ⟨a5, K5', Q5⟩ := (opens_int Try.underlying3) H enc w base spare held n _ _ (g5.trans (List.getElem?_eq_getElem (by rw [hxs]; decide)))
 exact ⟨⟨a0, a1, a2, a3, a4, a5⟩, ⟨_, _, (List.take_append_drop 1 _).symm, (by simpa only [List.drop_drop, List.drop_zero] using K0'), ⟨_, _, (List.take_append_drop 1 _).symm, (by simpa only [List.drop_drop, List.drop_zero] using K1'), ⟨_, _, (List.take_append_drop 1 _).symm, (by simpa only [List.drop_drop, List.drop_zero] using K2'), ⟨_, _, (List.take_append_drop 1 _).symm, (by simpa only [List.drop_drop, List.drop_zero] using K3'), ⟨_, _, (List.take_append_drop 1 _).symm, (by simpa only [List.drop_drop, List.drop_zero] using K4'), (by have h_ := K5'; rw [List.take_of_length_le (by rw [List.length_drop]; omega)] at h_; simpa only [List.drop_drop, List.drop_zero] using h_)⟩⟩⟩⟩⟩, Q0, Q1, Q2, Q3, Q4, Q5⟩
theorem cellsO57 : Try.prog.cellsOf 57 = 3 := by kernel_rfl
def q57 (x : S57) : Prop := qAny x.f0 ∧ (qInt .i64) x.f1 ∧ (qInt .i64) x.f2
set_option maxRecDepth 100000 in
theorem opens57 : Opens Try.prog 57 k57 q57 := by
 intro H enc w base spare held fuel cs x h
 obtain ⟨xs, n, rfl, _, hlen, hxs, hf⟩ := DataW.trod_struct Try.underlying57 h
 rw [cellsO57] at hlen
 have g0 : DataW.trod enc Try.prog w base spare held n 4 ((cs.drop (0)).take (Try.prog.cellsOf 4)) = xs[0]? := hf 0 _ rfl
 rw [cellsO4] at g0
 obtain ⟨a0, K0', Q0⟩ := (opens_bool Try.underlying4) H enc w base spare held n _ _ (g0.trans (List.getElem?_eq_getElem (by rw [hxs]; decide)))
 have g1 : DataW.trod enc Try.prog w base spare held n 3 ((cs.drop (1)).take (Try.prog.cellsOf 3)) = xs[1]? := hf 1 _ rfl
 rw [cellsO3] at g1
 obtain ⟨a1, K1', Q1⟩ := (opens_int Try.underlying3) H enc w base spare held n _ _ (g1.trans (List.getElem?_eq_getElem (by rw [hxs]; decide)))
 have g2 : DataW.trod enc Try.prog w base spare held n 3 ((cs.drop (2)).take (Try.prog.cellsOf 3)) = xs[2]? := hf 2 _ rfl
 rw [cellsO3] at g2
 obtain ⟨a2, K2', Q2⟩ := (opens_int Try.underlying3) H enc w base spare held n _ _ (g2.trans (List.getElem?_eq_getElem (by rw [hxs]; decide)))
 exact ⟨⟨a0, a1, a2⟩, ⟨_, _, (List.take_append_drop 1 _).symm, (by simpa only [List.drop_drop, List.drop_zero] using K0'), ⟨_, _, (List.take_append_drop 1 _).symm, (by simpa only [List.drop_drop, List.drop_zero] using K1'), (by have h_ := K2'; rw [List.take_of_length_le (by rw [List.length_drop]; omega)] at h_; simpa only [List.drop_drop, List.drop_zero] using h_)⟩⟩, Q0, Q1, Q2⟩
theorem cellsO5 : Try.prog.cellsOf 5 = 1 := by kernel_rfl
theorem cellsO47 : Try.prog.cellsOf 47 = 3 := by kernel_rfl
def q47 (x : S47) : Prop := (qInt .u8) x.f0 ∧ (qInt .u8) x.f1 ∧ (qInt .u8) x.f2
set_option maxRecDepth 100000 in
theorem opens47 : Opens Try.prog 47 k47 q47 := by
 intro H enc w base spare held fuel cs x h
 obtain ⟨xs, n, rfl, _, hlen, hxs, hf⟩ := DataW.trod_array Try.underlying47 h
 rw [cellsO47] at hlen
 have g0 : DataW.trod enc Try.prog w base spare held n 5 ((cs.drop (0 * Try.prog.cellsOf 5)).take (Try.prog.cellsOf 5)) = xs[0]? := hf 0 (by decide)
 rw [cellsO5] at g0
 obtain ⟨a0, K0', Q0⟩ := (opens_int Try.underlying5) H enc w base spare held n _ _ (g0.trans (List.getElem?_eq_getElem (by rw [hxs]; decide)))
 simp only [Nat.reduceMul] at K0'
 have g1 : DataW.trod enc Try.prog w base spare held n 5 ((cs.drop (1 * Try.prog.cellsOf 5)).take (Try.prog.cellsOf 5)) = xs[1]? := hf 1 (by decide)
 rw [cellsO5] at g1
 obtain ⟨a1, K1', Q1⟩ := (opens_int Try.underlying5) H enc w base spare held n _ _ (g1.trans (List.getElem?_eq_getElem (by rw [hxs]; decide)))
 simp only [Nat.reduceMul] at K1'
 have g2 : DataW.trod enc Try.prog w base spare held n 5 ((cs.drop (2 * Try.prog.cellsOf 5)).take (Try.prog.cellsOf 5)) = xs[2]? := hf 2 (by decide)
 rw [cellsO5] at g2
 obtain ⟨a2, K2', Q2⟩ := (opens_int Try.underlying5) H enc w base spare held n _ _ (g2.trans (List.getElem?_eq_getElem (by rw [hxs]; decide)))
 simp only [Nat.reduceMul] at K2'
 exact ⟨⟨a0, a1, a2⟩, ⟨_, _, (List.take_append_drop 1 _).symm, (by simpa only [List.drop_drop, List.drop_zero] using K0'), ⟨_, _, (List.take_append_drop 1 _).symm, (by simpa only [List.drop_drop, List.drop_zero] using K1'), (by have h_ := K2'; rw [List.take_of_length_le (by rw [List.length_drop]; omega)] at h_; simpa only [List.drop_drop, List.drop_zero] using h_)⟩⟩, Q0, Q1, Q2⟩
theorem cellsO58 : Try.prog.cellsOf 58 = 1 := by kernel_rfl
theorem cellsO59 : Try.prog.cellsOf 59 = 1 := by kernel_rfl
theorem cellsO27 : Try.prog.cellsOf 27 = 1 := by kernel_rfl
theorem cellsO61 : Try.prog.cellsOf 61 = 6 := by kernel_rfl
def q61 (x : S61) : Prop := (qList q56) x.f0 ∧ (qList q57) x.f1 ∧ (qList (qInt .i64)) x.f2 ∧ q47 x.f3
set_option maxRecDepth 100000 in
theorem opens61 : Opens Try.prog 61 k61 q61 := by
 intro H enc w base spare held fuel cs x h
 obtain ⟨xs, n, rfl, _, hlen, hxs, hf⟩ := DataW.trod_struct Try.underlying61 h
 rw [cellsO61] at hlen
 have g0 : DataW.trod enc Try.prog w base spare held n 58 ((cs.drop (0)).take (Try.prog.cellsOf 58)) = xs[0]? := hf 0 _ rfl
 rw [cellsO58] at g0
 obtain ⟨a0, K0', Q0⟩ := (opens_slice Try.underlying58 cellsO56 opens56) H enc w base spare held n _ _ (g0.trans (List.getElem?_eq_getElem (by rw [hxs]; decide)))
 have g1 : DataW.trod enc Try.prog w base spare held n 59 ((cs.drop (1)).take (Try.prog.cellsOf 59)) = xs[1]? := hf 1 _ rfl
 rw [cellsO59] at g1
 obtain ⟨a1, K1', Q1⟩ := (opens_slice Try.underlying59 cellsO57 opens57) H enc w base spare held n _ _ (g1.trans (List.getElem?_eq_getElem (by rw [hxs]; decide)))
 have g2 : DataW.trod enc Try.prog w base spare held n 27 ((cs.drop (2)).take (Try.prog.cellsOf 27)) = xs[2]? := hf 2 _ rfl
 rw [cellsO27] at g2
 obtain ⟨a2, K2', Q2⟩ := (opens_slice Try.underlying27 cellsO3 (opens_int Try.underlying3)) H enc w base spare held n _ _ (g2.trans (List.getElem?_eq_getElem (by rw [hxs]; decide)))
 have g3 : DataW.trod enc Try.prog w base spare held n 47 ((cs.drop (3)).take (Try.prog.cellsOf 47)) = xs[3]? := hf 3 _ rfl
 rw [cellsO47] at g3
 obtain ⟨a3, K3', Q3⟩ := opens47 H enc w base spare held n _ _ (g3.trans (List.getElem?_eq_getElem (by rw [hxs]; decide)))
 exact ⟨⟨a0, a1, a2, a3⟩, ⟨_, _, (List.take_append_drop 1 _).symm, (by simpa only [List.drop_drop, List.drop_zero] using K0'), ⟨_, _, (List.take_append_drop 1 _).symm, (by simpa only [List.drop_drop, List.drop_zero] using K1'), ⟨_, _, (List.take_append_drop 1 _).symm, (by simpa only [List.drop_drop, List.drop_zero] using K2'), (by have h_ := K3'; rw [List.take_of_length_le (by rw [List.length_drop]; omega)] at h_; simpa only [List.drop_drop, List.drop_zero] using h_)⟩⟩⟩, Q0, Q1, Q2, Q3⟩
def q78 (x : S78) : Prop := qAny x.f0 ∧ (qInt .i64) x.f1 ∧ (qInt .i64) x.f2 ∧ (qInt .i64) x.f3
def q26 (x : S26) : Prop := (qInt .i64) x.f0 ∧ (qInt .i64) x.f1 ∧ (qList q77) x.f2 ∧ (qList q61) x.f3 ∧ (qList q78) x.f4
end Go.Proofs.Ytmjhnmdmopmfjaa.Fn
namespace Go.Proofs.Ytmjhnmdmopmfjaa.Fn
open Go.RowKit Go.Proofs.YtmjhnmdmopmfjaaW.PrintWords Go.Proofs.YtmjhnmdmopmfjaaW.PrintLast Go.Proofs.YtmjhnmdmopmfjaaW.PrintMore
attribute [local go_sem] max2_int min2_int max_two min_two max_three min_three max_four min_four
set_option linter.unusedVariables false
set_option linter.unusedSimpArgs false
def parcloselaw03_num.f (a0 : Int) : Option (Int) := some a0
set_option maxHeartbeats 8000000 in
set_option maxRecDepth 100000 in
theorem parcloselaw03_num.calls (a0 : Int) (r : Int) (w : World) (h : parcloselaw03_num.f a0 = some r) :
  Calls Try.prog 30 #[.int .i64 a0] w fun e w' => e = .returned (.int .i64 r) ∧ Drawn0 w w' := by
 have H : (some a0) = some r := h
 clear h
 obtain rfl := Option.some.inj H
 go_enter Try.func30, Try.ntmps30
 go_wp2
 go_ret
 exact ⟨by first | rfl | (simp; done) | (simp [*]; done), by repeat (first | exact Drawn0.refl _ | apply Drawn0.step)⟩
end Go.Proofs.Ytmjhnmdmopmfjaa.Fn
namespace Go.Proofs.Ytmjhnmdmopmfjaa.Fn
open Go.RowKit Go.Proofs.YtmjhnmdmopmfjaaW.PrintWords Go.Proofs.YtmjhnmdmopmfjaaW.PrintLast Go.Proofs.YtmjhnmdmopmfjaaW.PrintMore
attribute [local go_sem] max2_int min2_int max_two min_two max_three min_three max_four min_four
set_option linter.unusedVariables false
set_option linter.unusedSimpArgs false
def parcloselaw03_ConfRights.f (k : Nat) (a0_0 : Bool) (a0_1 : Int) (a0_2 : Int) (a0_3 : Int) (a0_4 : Int) (a0_5 : Int) (a1_0 : Bool) (a1_1 : Int) (a1_2 : Int) (l2_0 : List (S56)) (l2_1 : List (S57)) (l2_2 : List Int) (a2_3 : Int) (a2_4 : Int) (a2_5 : Int) : Option (Bool) := (parcloselaw03_few.f l2_0 l2_1 l2_2 a2_3 a2_4 a2_5).bind fun t364 => (if t364 = true then ((conf_Task_Right.f k a0_0 a0_1 a0_2 a0_3 a0_4 a0_5).bind fun t366 => ((parcloseref03_RightTask.f a0_0 a0_1 a0_2 a0_3 a0_4 a0_5).bind fun t367 => (if (t366 == t367) = true then ((conf_Server_Right.f k a1_0 a1_1 a1_2).bind fun t368 => ((parcloseref03_RightServer.f a1_0 a1_1 a1_2).bind fun t369 => (if (t368 == t369) = true then ((parcloselaw03_Part.f k l2_0 l2_1 l2_2 a2_3 a2_4 a2_5).bind fun bt370 => ((conf_Part_Rights.f k bt370.1 bt370.2.1 bt370.2.2.1 bt370.2.2.2.1 bt370.2.2.2.2.1 bt370.2.2.2.2.2).bind fun t382 => ((parcloselaw03_num.f t382).bind fun t383 => ((parcloseref03_Rights.f l2_0 l2_1 l2_2 a2_3 a2_4 a2_5).bind fun t384 => (if t383 = t384 then ((parcloselaw03_knows.f k).bind fun t385 => (some t385)) else (some false)))))) else (some false)))) else (some false)))) else ((parcloselaw03_knows.f k).bind fun t365 => (some t365)))
def parcloselaw03_ConfRights.T3 : Bool × List (List Nat × List Nat) := (true, [([], []), ([0], [0]), ([], []), ([2, 1], [2]), ([1, 3], [1, 3]), ([4, 3], [4]), ([5], [5]), ([6, 5, 5], [5, 6]), ([5], [5]), ([8, 7, 5], [5, 8]), ([7, 9, 5], [5, 7, 9]), ([5, 10], [5, 10]), ([11, 9], [11]), ([12], [12]), ([13, 12, 12], [12, 13]), ([14, 14, 12], [12, 14]), ([15, 15, 12], [12, 15]), ([12], [12]), ([17, 16, 12], [12, 17]), ([16, 18, 12], [12, 16, 18]), ([12, 19], [12, 19]), ([20, 18], [20]), ([21, 21], [21]), ([21, 22], [21, 22]), ([23, 22, 0, 1, 2, 3, 4, 5, 6, 7, 8, 9, 10, 11, 12, 13, 14, 15, 16, 17, 18, 19, 20, 21, 22, 23], [23])])
def parcloselaw03_ConfRights.B3 : List Nat := [0, 1, 0, 7, 15, 31, 63, 127, 63, 511, 1023, 2047, 4095, 8191, 16383, 32767, 65535, 8191, 262143, 524287, 1048575, 2097151, 4194303, 8388607, 16777215]
theorem parcloselaw03_ConfRights.tab3 : rtab .any (opsOf Try.f5 3) = parcloselaw03_ConfRights.T3 := by kernel_rfl
theorem parcloselaw03_ConfRights.bits3 : waitsOk parcloselaw03_ConfRights.T3.2 parcloselaw03_ConfRights.B3 = true := by kernel_rfl
set_option maxHeartbeats 8000000 in
set_option maxRecDepth 100000 in
theorem parcloselaw03_ConfRights.calls (k : Nat) (a0_0 : Bool) (a0_1 : Int) (a0_2 : Int) (a0_3 : Int) (a0_4 : Int) (a0_5 : Int) (a1_0 : Bool) (a1_1 : Int) (a1_2 : Int) (A2_0 : Option Addr) (c2_0 : Nat) (l2_0 : List (S56)) (A2_1 : Option Addr) (c2_1 : Nat) (l2_1 : List (S57)) (A2_2 : Option Addr) (c2_2 : Nat) (l2_2 : List Int) (a2_3 : Int) (a2_4 : Int) (a2_5 : Int) (r : Bool) (w : World) (hr2_0 : Kd.C k56 w A2_0 l2_0.length l2_0) (hc2_0 : l2_0.length ≤ c2_0) (hr2_1 : Kd.C k57 w A2_1 l2_1.length l2_1) (hc2_1 : l2_1.length ≤ c2_1) (hr2_2 : Kd.C (Kd.int .i64) w A2_2 l2_2.length l2_2) (hc2_2 : l2_2.length ≤ c2_2) (hr__ : r = true) (h : parcloselaw03_ConfRights.f k a0_0 a0_1 a0_2 a0_3 a0_4 a0_5 a1_0 a1_1 a1_2 l2_0 l2_1 l2_2 a2_3 a2_4 a2_5 = some r) :
  Calls Try.prog 5 #[.agg #[.bool a0_0, .int .i64 a0_1, .int .i64 a0_2, .int .i64 a0_3, .int .i64 a0_4, .int .i64 a0_5], .agg #[.bool a1_0, .int .i64 a1_1, .int .i64 a1_2], .agg #[.slice A2_0 l2_0.length c2_0, .slice A2_1 l2_1.length c2_1, .slice A2_2 l2_2.length c2_2, .int .u8 a2_3, .int .u8 a2_4, .int .u8 a2_5]] w fun e w' => e = .returned (.bool r) ∧ Below w.heap.size w w' := by
 have hu56 := Try.underlying56
 have hu57 := Try.underlying57
 have hu61 := Try.underlying61
 have HR2_0 := asd hr2_0
 have HC2_0 := asd hc2_0
 clear hr2_0 hc2_0
 have HR2_1 := asd hr2_1
 have HC2_1 := asd hc2_1
 clear hr2_1 hc2_1
 have HR2_2 := asd hr2_2
 have HC2_2 := asd hc2_2
 clear hr2_2 hc2_2
 have HB := asd (Below.refl w.heap.size w)
 have HR__ := asd hr__
 clear hr__
 have H : ((parcloselaw03_few.f l2_0 l2_1 l2_2 a2_3 a2_4 a2_5).bind fun t364 => (if t364 = true then ((conf_Task_Right.f k a0_0 a0_1 a0_2 a0_3 a0_4 a0_5).bind fun t366 => ((parcloseref03_RightTask.f a0_0 a0_1 a0_2 a0_3 a0_4 a0_5).bind fun t367 => (if (t366 == t367) = true then ((conf_Server_Right.f k a1_0 a1_1 a1_2).bind fun t368 => ((parcloseref03_RightServer.f a1_0 a1_1 a1_2).bind fun t369 => (if (t368 == t369) = true then ((parcloselaw03_Part.f k l2_0 l2_1 l2_2 a2_3 a2_4 a2_5).bind fun bt370 => ((conf_Part_Rights.f k bt370.1 bt370.2.1 bt370.2.2.1 bt370.2.2.2.1 bt370.2.2.2.2.1 bt370.2.2.2.2.2).bind fun t382 => ((parcloselaw03_num.f t382).bind fun t383 => ((parcloseref03_Rights.f l2_0 l2_1 l2_2 a2_3 a2_4 a2_5).bind fun t384 => (if t383 = t384 then ((parcloselaw03_knows.f k).bind fun t385 => (some t385)) else (some false)))))) else (some false)))) else (some false)))) else ((parcloselaw03_knows.f k).bind fun t365 => (some t365)))) = some r := h
 clear h
 replace H := Option.bind_eq_some_iff.mp H
 obtain ⟨t364, A40, H⟩ := H
 replace H : (if t364 = true then ((conf_Task_Right.f k a0_0 a0_1 a0_2 a0_3 a0_4 a0_5).bind fun t366 => ((parcloseref03_RightTask.f a0_0 a0_1 a0_2 a0_3 a0_4 a0_5).bind fun t367 => (if (t366 == t367) = true then ((conf_Server_Right.f k a1_0 a1_1 a1_2).bind fun t368 => ((parcloseref03_RightServer.f a1_0 a1_1 a1_2).bind fun t369 => (if (t368 == t369) = true then ((parcloselaw03_Part.f k l2_0 l2_1 l2_2 a2_3 a2_4 a2_5).bind fun bt370 => ((conf_Part_Rights.f k bt370.1 bt370.2.1 bt370.2.2.1 bt370.2.2.2.1 bt370.2.2.2.2.1 bt370.2.2.2.2.2).bind fun t382 => ((parcloselaw03_num.f t382).bind fun t383 => ((parcloseref03_Rights.f l2_0 l2_1 l2_2 a2_3 a2_4 a2_5).bind fun t384 => (if t383 = t384 then ((parcloselaw03_knows.f k).bind fun t385 => (some t385)) else (some false)))))) else (some false)))) else (some false)))) else ((parcloselaw03_knows.f k).bind fun t365 => (some t365))) = some r := H
 have A4 := asd A40
 clear A40
 by_cases c5 : t364 = true
 ·subst c5
  have H1 : ((conf_Task_Right.f k a0_0 a0_1 a0_2 a0_3 a0_4 a0_5).bind fun t366 => ((parcloseref03_RightTask.f a0_0 a0_1 a0_2 a0_3 a0_4 a0_5).bind fun t367 => (if (t366 == t367) = true then ((conf_Server_Right.f k a1_0 a1_1 a1_2).bind fun t368 => ((parcloseref03_RightServer.f a1_0 a1_1 a1_2).bind fun t369 => (if (t368 == t369) = true then ((parcloselaw03_Part.f k l2_0 l2_1 l2_2 a2_3 a2_4 a2_5).bind fun bt370 => ((conf_Part_Rights.f k bt370.1 bt370.2.1 bt370.2.2.1 bt370.2.2.2.1 bt370.2.2.2.2.1 bt370.2.2.2.2.2).bind fun t382 => ((parcloselaw03_num.f t382).bind fun t383 => ((parcloseref03_Rights.f l2_0 l2_1 l2_2 a2_3 a2_4 a2_5).bind fun t384 => (if t383 = t384 then ((parcloselaw03_knows.f k).bind fun t385 => (some t385)) else (some false)))))) else (some false)))) else (some false)))) = some r := by rw [if_pos rfl] at H; exact H
  clear H
  have H := H1
  clear H1
  replace H := Option.bind_eq_some_iff.mp H
  obtain ⟨t366, A60, H⟩ := H
  replace H : ((parcloseref03_RightTask.f a0_0 a0_1 a0_2 a0_3 a0_4 a0_5).bind fun t367 => (if (t366 == t367) = true then ((conf_Server_Right.f k a1_0 a1_1 a1_2).bind fun t368 => ((parcloseref03_RightServer.f a1_0 a1_1 a1_2).bind fun t369 => (if (t368 == t369) = true then ((parcloselaw03_Part.f k l2_0 l2_1 l2_2 a2_3 a2_4 a2_5).bind fun bt370 => ((conf_Part_Rights.f k bt370.1 bt370.2.1 bt370.2.2.1 bt370.2.2.2.1 bt370.2.2.2.2.1 bt370.2.2.2.2.2).bind fun t382 => ((parcloselaw03_num.f t382).bind fun t383 => ((parcloseref03_Rights.f l2_0 l2_1 l2_2 a2_3 a2_4 a2_5).bind fun t384 => (if t383 = t384 then ((parcloselaw03_knows.f k).bind fun t385 => (some t385)) else (some false)))))) else (some false)))) else (some false))) = some r := H
  have A6 := asd A60
  clear A60
  replace H := Option.bind_eq_some_iff.mp H
  obtain ⟨t367, A70, H⟩ := H
  replace H : (if (t366 == t367) = true then ((conf_Server_Right.f k a1_0 a1_1 a1_2).bind fun t368 => ((parcloseref03_RightServer.f a1_0 a1_1 a1_2).bind fun t369 => (if (t368 == t369) = true then ((parcloselaw03_Part.f k l2_0 l2_1 l2_2 a2_3 a2_4 a2_5).bind fun bt370 => ((conf_Part_Rights.f k bt370.1 bt370.2.1 bt370.2.2.1 bt370.2.2.2.1 bt370.2.2.2.2.1 bt370.2.2.2.2.2).bind fun t382 => ((parcloselaw03_num.f t382).bind fun t383 => ((parcloseref03_Rights.f l2_0 l2_1 l2_2 a2_3 a2_4 a2_5).bind fun t384 => (if t383 = t384 then ((parcloselaw03_knows.f k).bind fun t385 => (some t385)) else (some false)))))) else (some false)))) else (some false)) = some r := H
  have A7 := asd A70
  clear A70
  by_cases c8 : (t366 == t367) = true
  ·rw [if_pos c8] at H
   have c8b0 : (t366 == t367) = true := c8
   (try (have c8b1 : decide (t366 = t367) = true := by simpa using c8))
   (try (have c8b2 : (t366 == t367) = true := by simpa using c8))
   clear c8
   replace H := Option.bind_eq_some_iff.mp H
   obtain ⟨t368, A90, H⟩ := H
   replace H : ((parcloseref03_RightServer.f a1_0 a1_1 a1_2).bind fun t369 => (if (t368 == t369) = true then ((parcloselaw03_Part.f k l2_0 l2_1 l2_2 a2_3 a2_4 a2_5).bind fun bt370 => ((conf_Part_Rights.f k bt370.1 bt370.2.1 bt370.2.2.1 bt370.2.2.2.1 bt370.2.2.2.2.1 bt370.2.2.2.2.2).bind fun t382 => ((parcloselaw03_num.f t382).bind fun t383 => ((parcloseref03_Rights.f l2_0 l2_1 l2_2 a2_3 a2_4 a2_5).bind fun t384 => (if t383 = t384 then ((parcloselaw03_knows.f k).bind fun t385 => (some t385)) else (some false)))))) else (some false))) = some r := H
   have A9 := asd A90
   clear A90
   replace H := Option.bind_eq_some_iff.mp H
   obtain ⟨t369, A100, H⟩ := H
   replace H : (if (t368 == t369) = true then ((parcloselaw03_Part.f k l2_0 l2_1 l2_2 a2_3 a2_4 a2_5).bind fun bt370 => ((conf_Part_Rights.f k bt370.1 bt370.2.1 bt370.2.2.1 bt370.2.2.2.1 bt370.2.2.2.2.1 bt370.2.2.2.2.2).bind fun t382 => ((parcloselaw03_num.f t382).bind fun t383 => ((parcloseref03_Rights.f l2_0 l2_1 l2_2 a2_3 a2_4 a2_5).bind fun t384 => (if t383 = t384 then ((parcloselaw03_knows.f k).bind fun t385 => (some t385)) else (some false)))))) else (some false)) = some r := H
   have A10 := asd A100
   clear A100
   by_cases c11 : (t368 == t369) = true
   ·rw [if_pos c11] at H
    have c11b0 : (t368 == t369) = true := c11
    (try (have c11b1 : decide (t368 = t369) = true := by simpa using c11))
    (try (have c11b2 : (t368 == t369) = true := by simpa using c11))
    clear c11
    replace H := Option.bind_eq_some_iff.mp H
    obtain ⟨⟨t370, t373, t376, t379, t380, t381⟩, A120, H⟩ := H
    replace H : ((conf_Part_Rights.f k t370 t373 t376 t379 t380 t381).bind fun t382 => ((parcloselaw03_num.f t382).bind fun t383 => ((parcloseref03_Rights.f l2_0 l2_1 l2_2 a2_3 a2_4 a2_5).bind fun t384 => (if t383 = t384 then ((parcloselaw03_knows.f k).bind fun t385 => (some t385)) else (some false))))) = some r := H
    have A12 := asd A120
    clear A120
    replace H := Option.bind_eq_some_iff.mp H
    obtain ⟨t382, A130, H⟩ := H
    replace H : ((parcloselaw03_num.f t382).bind fun t383 => ((parcloseref03_Rights.f l2_0 l2_1 l2_2 a2_3 a2_4 a2_5).bind fun t384 => (if t383 = t384 then ((parcloselaw03_knows.f k).bind fun t385 => (some t385)) else (some false)))) = some r := H
    have A13 := asd A130
    clear A130
    replace H := Option.bind_eq_some_iff.mp H
    obtain ⟨t383, A140, H⟩ := H
    replace H : ((parcloseref03_Rights.f l2_0 l2_1 l2_2 a2_3 a2_4 a2_5).bind fun t384 => (if t383 = t384 then ((parcloselaw03_knows.f k).bind fun t385 => (some t385)) else (some false))) = some r := H
    have A14 := asd A140
    clear A140
    replace H := Option.bind_eq_some_iff.mp H
    obtain ⟨t384, A150, H⟩ := H
    replace H : (if t383 = t384 then ((parcloselaw03_knows.f k).bind fun t385 => (some t385)) else (some false)) = some r := H
    have A15 := asd A150
    clear A150
    by_cases c16 : t383 = t384
    ·rw [if_pos c16] at H
     have c16b0 : (t383 == t384) = true := beq_iff_eq.mpr c16
     have c16b1 : (t383 != t384) = false := bne_eq_false_iff_eq.mpr c16
     clear c16
     replace H := Option.bind_eq_some_iff.mp H
     obtain ⟨t385, A170, H⟩ := H
     replace H : (some t385) = some r := H
     have A17 := asd A170
     clear A170
     obtain rfl := Option.some.inj H
     go_enter Try.func5, Try.ntmps5
     try go_wp2_with (first | ((with_reducible refine gate_dst (N := 3) rfl ?_); refine box_event ?hg (N := 3) ?hd (cs := #[.bool a0_0, .int .i64 a0_1, .int .i64 a0_2, .int .i64 a0_3, .int .i64 a0_4, .int .i64 a0_5]) (t := 56) ?hr ?_; (case hd => rfl); (case hg => rfl); (case hr => first | (go_simp; done) | (go_simp; rfl)); intro gb361 hg w18 hbox hb; have n0_ := asd (below_step (by repeat (first | (with_reducible first | exact HB.out | apply wa | apply wn | apply wd) | exact HB.out)) hb); have n1_ := asd (hbox); have n2_ := asd ((by rw [hg]; exact (below_size (by repeat (first | (with_reducible first | exact HB.out | apply wa | apply wn | apply wd) | exact HB.out))) : w.heap.size ≤ gb361)); have n3_ := asd ((by rw [hg]; exact (below_size (by repeat (first | (with_reducible first | exact HB.out | apply wa | apply wn | apply wd) | exact HB.out))) : w.heap.size ≤ gb361)); clear HB; have HB := n0_; have BK361 := n1_; have GW361 := n2_; have GE361 := n3_; clear n0_ n1_ n2_ n3_; clear hb hbox hg) | ((with_reducible refine gate_dst (N := 4) rfl ?_); refine box_event ?hg (N := 4) ?hd (cs := #[.bool a1_0, .int .i64 a1_1, .int .i64 a1_2]) (t := 57) ?hr ?_; (case hd => rfl); (case hg => rfl); (case hr => first | (go_simp; done) | (go_simp; rfl)); intro gb362 hg w19 hbox hb; have n0_ := asd (blk_below (g := gb361) (o := .cells #[.bool a0_0, .int .i64 a0_1, .int .i64 a0_2, .int .i64 a0_3, .int .i64 a0_4, .int .i64 a0_5] 56 (0, 0)) (by (with_reducible repeat first | apply bn | apply bd | apply ba); exact BK361.out) hb); have n1_ := asd (below_step (by repeat (first | (with_reducible first | exact HB.out | apply wa | apply wn | apply wd | refine ws ?_ GE361.out) | exact HB.out)) hb); have n2_ := asd (hbox); have n3_ := asd ((by rw [hg]; exact (below_size (by repeat (first | (with_reducible first | exact HB.out | apply wa | apply wn | apply wd | refine ws ?_ GE361.out) | exact HB.out))) : w.heap.size ≤ gb362)); have n4_ := asd ((by rw [hg]; exact (below_size (by repeat (first | (with_reducible first | exact HB.out | apply wa | apply wn | apply wd | refine ws ?_ GE361.out) | exact HB.out))) : w.heap.size ≤ gb362)); have n5_ := asd ((by rw [hg]; exact Nat.ne_of_lt (blk_lt (g := gb361) (o := .cells #[.bool a0_0, .int .i64 a0_1, .int .i64 a0_2, .int .i64 a0_3, .int .i64 a0_4, .int .i64 a0_5] 56 (0, 0)) (by (with_reducible repeat first | apply bn | apply bd | apply ba); exact BK361.out)) : gb361 ≠ gb362)); have n6_ := asd ((by rw [hg]; exact Nat.ne_of_gt (blk_lt (g := gb361) (o := .cells #[.bool a0_0, .int .i64 a0_1, .int .i64 a0_2, .int .i64 a0_3, .int .i64 a0_4, .int .i64 a0_5] 56 (0, 0)) (by (with_reducible repeat first | apply bn | apply bd | apply ba); exact BK361.out)) : gb362 ≠ gb361)); clear BK361; clear HB; have BK361 := n0_; have HB := n1_; have BK362 := n2_; have GW362 := n3_; have GE362 := n4_; have NB361_362 := n5_; have NB362_361 := n6_; clear n0_ n1_ n2_ n3_ n4_ n5_ n6_; clear hb hbox hg) | ((with_reducible refine gate_dst (N := 5) rfl ?_); refine box_event ?hg (N := 5) ?hd (cs := #[.slice A2_0 l2_0.length c2_0, .slice A2_1 l2_1.length c2_1, .slice A2_2 l2_2.length c2_2, .int .u8 a2_3, .int .u8 a2_4, .int .u8 a2_5]) (t := 61) ?hr ?_; (case hd => rfl); (case hg => rfl); (case hr => first | (go_simp; done) | (go_simp; rfl)); intro gb363 hg w20 hbox hb; have n0_ := asd (blk_below (g := gb361) (o := .cells #[.bool a0_0, .int .i64 a0_1, .int .i64 a0_2, .int .i64 a0_3, .int .i64 a0_4, .int .i64 a0_5] 56 (0, 0)) (by (with_reducible repeat first | apply bn | apply bd | apply ba); exact BK361.out) hb); have n1_ := asd (blk_below (g := gb362) (o := .cells #[.bool a1_0, .int .i64 a1_1, .int .i64 a1_2] 57 (0, 0)) (by (with_reducible repeat first | apply bn | apply bd | apply ba); exact BK362.out) hb); have n2_ := asd (below_step (by repeat (first | (with_reducible first | exact HB.out | apply wa | apply wn | apply wd | refine ws ?_ GE361.out | refine ws ?_ GE362.out) | exact HB.out)) hb); have n3_ := asd (hbox); have n4_ := asd ((by rw [hg]; exact (below_size (by repeat (first | (with_reducible first | exact HB.out | apply wa | apply wn | apply wd | refine ws ?_ GE361.out | refine ws ?_ GE362.out) | exact HB.out))) : w.heap.size ≤ gb363)); have n5_ := asd ((by rw [hg]; exact (below_size (by repeat (first | (with_reducible first | exact HB.out | apply wa | apply wn | apply wd | refine ws ?_ GE361.out | refine ws ?_ GE362.out) | exact HB.out))) : w.heap.size ≤ gb363)); have n6_ := asd ((by rw [hg]; exact Nat.ne_of_lt (blk_lt (g := gb361) (o := .cells #[.bool a0_0, .int .i64 a0_1, .int .i64 a0_2, .int .i64 a0_3, .int .i64 a0_4, .int .i64 a0_5] 56 (0, 0)) (by (with_reducible repeat first | apply bn | apply bd | apply ba); exact BK361.out)) : gb361 ≠ gb363)); have n7_ := asd ((by rw [hg]; exact Nat.ne_of_gt (blk_lt (g := gb361) (o := .cells #[.bool a0_0, .int .i64 a0_1, .int .i64 a0_2, .int .i64 a0_3, .int .i64 a0_4, .int .i64 a0_5] 56 (0, 0)) (by (with_reducible repeat first | apply bn | apply bd | apply ba); exact BK361.out)) : gb363 ≠ gb361)); have n8_ := asd ((by rw [hg]; exact Nat.ne_of_lt (blk_lt (g := gb362) (o := .cells #[.bool a1_0, .int .i64 a1_1, .int .i64 a1_2] 57 (0, 0)) (by (with_reducible repeat first | apply bn | apply bd | apply ba); exact BK362.out)) : gb362 ≠ gb363)); have n9_ := asd ((by rw [hg]; exact Nat.ne_of_gt (blk_lt (g := gb362) (o := .cells #[.bool a1_0, .int .i64 a1_1, .int .i64 a1_2] 57 (0, 0)) (by (with_reducible repeat first | apply bn | apply bd | apply ba); exact BK362.out)) : gb363 ≠ gb362)); clear BK361; clear BK362; clear HB; have BK361 := n0_; have BK362 := n1_; have HB := n2_; have BK363 := n3_; have GW363 := n4_; have GE363 := n5_; have NB361_363 := n6_; have NB363_361 := n7_; have NB362_363 := n8_; have NB363_362 := n9_; clear n0_ n1_ n2_ n3_ n4_ n5_ n6_ n7_ n8_ n9_; clear hb hbox hg; have hnb21 := NB363_361.out; have hnc21 := NB361_363.out; have hnb22 := NB363_362.out; have hnc22 := NB362_363.out; have hcz23_0 : w20.cell? ⟨gb363, 0, none⟩ = some (.slice A2_0 l2_0.length c2_0) := (blk_cell BK363.out 0).trans rfl; have hcz23_1 : w20.cell? ⟨gb363, 1, none⟩ = some (.slice A2_1 l2_1.length c2_1) := (blk_cell BK363.out 1).trans rfl; have hcz23_2 : w20.cell? ⟨gb363, 2, none⟩ = some (.slice A2_2 l2_2.length c2_2) := (blk_cell BK363.out 2).trans rfl; have hcz23_3 : w20.cell? ⟨gb363, 3, none⟩ = some (.int .u8 a2_3) := (blk_cell BK363.out 3).trans rfl; have hcz23_4 : w20.cell? ⟨gb363, 4, none⟩ = some (.int .u8 a2_4) := (blk_cell BK363.out 4).trans rfl; have hcz23_5 : w20.cell? ⟨gb363, 5, none⟩ = some (.int .u8 a2_5) := (blk_cell BK363.out 5).trans rfl; have hfz23_0 := blk_frozen BK363.out 0; have hfz23_1 := blk_frozen BK363.out 1; have hfz23_2 := blk_frozen BK363.out 2; have hfz23_3 := blk_frozen BK363.out 3; have hfz23_4 := blk_frozen BK363.out 4; have hfz23_5 := blk_frozen BK363.out 5) | ((with_reducible refine gate_callee (f := 25) rfl ?_); refine goesL_ (some 8) rfl rfl Try.func25 (by kernel_rfl) rfl #[.agg #[.slice A2_0 l2_0.length c2_0, .slice A2_1 l2_1.length c2_1, .slice A2_2 l2_2.length c2_2, .int .u8 a2_3, .int .u8 a2_4, .int .u8 a2_5]] rfl (by (try simp only [List.map_toArray, List.map_cons, List.map_nil]); first | done | rfl | (simp only [List.length_drop, List.length_take]; rfl)) ?_; (with_reducible refine (parcloselaw03_few.calls _ _ l2_0 _ _ l2_1 _ _ l2_2 a2_3 a2_4 a2_5 true _ ?side1 ?side2 ?side3 ?side4 ?side5 ?side6 A4.out).mono ?_); (case side1 => repeat (first | exact (Kd.C_below HR2_0.out HB.out) | (with_reducible refine Kd.C_alloc ?_ _) | (with_reducible refine Kd.C_drewN ?_ _) | (with_reducible refine Kd.C_drew ?_))); (case side2 => exact HC2_0.out); (case side3 => repeat (first | exact (Kd.C_below HR2_1.out HB.out) | (with_reducible refine Kd.C_alloc ?_ _) | (with_reducible refine Kd.C_drewN ?_ _) | (with_reducible refine Kd.C_drew ?_))); (case side4 => exact HC2_1.out); (case side5 => repeat (first | exact (Kd.C_below HR2_2.out HB.out) | (with_reducible refine Kd.C_alloc ?_ _) | (with_reducible refine Kd.C_drewN ?_ _) | (with_reducible refine Kd.C_drew ?_))); (case side6 => exact HC2_2.out); rintro e w24 ⟨rfl, hb⟩; refine ⟨_, rfl, ?_⟩; have n0_ := asd (blk_below (g := gb361) (o := .cells #[.bool a0_0, .int .i64 a0_1, .int .i64 a0_2, .int .i64 a0_3, .int .i64 a0_4, .int .i64 a0_5] 56 (0, 0)) (by (with_reducible repeat first | apply bn | apply bd | apply ba); exact BK361.out) hb); have n1_ := asd (blk_below (g := gb362) (o := .cells #[.bool a1_0, .int .i64 a1_1, .int .i64 a1_2] 57 (0, 0)) (by (with_reducible repeat first | apply bn | apply bd | apply ba); exact BK362.out) hb); have n2_ := asd (blk_below (g := gb363) (o := .cells #[.slice A2_0 l2_0.length c2_0, .slice A2_1 l2_1.length c2_1, .slice A2_2 l2_2.length c2_2, .int .u8 a2_3, .int .u8 a2_4, .int .u8 a2_5] 61 (0, 0)) (by (with_reducible repeat first | apply bn | apply bd | apply ba); exact BK363.out) hb); have n3_ := asd (below_step (by repeat (first | (with_reducible first | exact HB.out | apply wa | apply wn | apply wd | refine ws ?_ GE361.out | refine ws ?_ GE362.out | refine ws ?_ GE363.out) | exact HB.out)) hb); clear BK361; clear BK362; clear BK363; clear HB; have BK361 := n0_; have BK362 := n1_; have BK363 := n2_; have HB := n3_; clear n0_ n1_ n2_ n3_; (try clear hb); (try clear hb2); (try clear hk); (try clear hi)))
     have n0_ := asd (blk_drew BK361.out)
     have n1_ := asd (blk_drew BK362.out)
     have n2_ := asd (blk_drew BK363.out)
     have n3_ := asd (below_drew1 HB.out)
     clear BK361
     clear BK362
     clear BK363
     clear HB
     have BK361 := n0_
     have BK362 := n1_
     have BK363 := n2_
     have HB := n3_
     clear n0_ n1_ n2_ n3_
     refine start_ (n := 25) (S := fun w' => w'.cell? ⟨gb361, 0, none⟩ = some (.bool a0_0) ∧ w'.cell? ⟨gb361, 1, none⟩ = some (.int .i64 a0_1) ∧ w'.cell? ⟨gb361, 2, none⟩ = some (.int .i64 a0_2) ∧ w'.cell? ⟨gb361, 3, none⟩ = some (.int .i64 a0_3) ∧ w'.cell? ⟨gb361, 4, none⟩ = some (.int .i64 a0_4) ∧ w'.cell? ⟨gb361, 5, none⟩ = some (.int .i64 a0_5) ∧ w'.cell? ⟨gb362, 0, none⟩ = some (.bool a1_0) ∧ w'.cell? ⟨gb362, 1, none⟩ = some (.int .i64 a1_1) ∧ w'.cell? ⟨gb362, 2, none⟩ = some (.int .i64 a1_2) ∧ w'.cell? ⟨gb363, 0, none⟩ = some (.slice A2_0 l2_0.length c2_0) ∧ w'.cell? ⟨gb363, 1, none⟩ = some (.slice A2_1 l2_1.length c2_1) ∧ w'.cell? ⟨gb363, 2, none⟩ = some (.slice A2_2 l2_2.length c2_2) ∧ w'.cell? ⟨gb363, 3, none⟩ = some (.int .u8 a2_3) ∧ w'.cell? ⟨gb363, 4, none⟩ = some (.int .u8 a2_4) ∧ w'.cell? ⟨gb363, 5, none⟩ = some (.int .u8 a2_5)) (ds := []) #[false, false, false, false, false, false, false, false, false, false, false, false, false, false, false, false, false, false, false, false, false, false, false, false, false] (by kernel_rfl) rfl rfl ⟨(blk_cell BK361.out 0).trans rfl, (blk_cell BK361.out 1).trans rfl, (blk_cell BK361.out 2).trans rfl, (blk_cell BK361.out 3).trans rfl, (blk_cell BK361.out 4).trans rfl, (blk_cell BK361.out 5).trans rfl, (blk_cell BK362.out 0).trans rfl, (blk_cell BK362.out 1).trans rfl, (blk_cell BK362.out 2).trans rfl, (blk_cell BK363.out 0).trans rfl, (blk_cell BK363.out 1).trans rfl, (blk_cell BK363.out 2).trans rfl, (blk_cell BK363.out 3).trans rfl, (blk_cell BK363.out 4).trans rfl, (blk_cell BK363.out 5).trans rfl⟩ (fun hHeld => ?_); refine with_tabW parcloselaw03_ConfRights.tab3 parcloselaw03_ConfRights.bits3 (fun HT_ HW_ => ?_)
     generalize w24.drew = w25 at BK361 BK362 BK363 HB hHeld ⊢
     refine take_ (i := 0) (N := some 11) (v := ?_) (a' := ?_) #[true, false, false, false, false, false, false, false, false, false, false, false, false, false, false, false, false, false, false, false, false, false, false, false, false] rfl rfl (take_ofW HT_.out HW_.out (by kernel_rfl)) (fun _ _ _ h => h) (Or.inl ⟨by rfl, ?_⟩) hHeld ?_ ?_
     rotate_left
     ·rintro w' ⟨s0, s1, s2, s3, s4, s5, s6, s7, s8, s9, s10, s11, s12, s13, s14⟩
      go_simp
      with_reducible rfl
     rotate_left
     ·simp only [Act.put, sB, i64_w, i32_w]
      rfl
     refine take_ (i := 2) (N := some 13) (v := ?_) (a' := ?_) #[true, false, true, false, false, false, false, false, false, false, false, false, false, false, false, false, false, false, false, false, false, false, false, false, false] rfl rfl (take_ofW HT_.out HW_.out (by kernel_rfl)) (fun _ _ _ h => h) (Or.inl ⟨by rfl, ?_⟩) hHeld ?_ ?_
     rotate_left
     ·rintro w' ⟨s0, s1, s2, s3, s4, s5, s6, s7, s8, s9, s10, s11, s12, s13, s14⟩
      go_simp
      with_reducible rfl
     rotate_left
     ·simp only [Act.put, sB, i64_w, i32_w]
      rfl
     refine one_ (i := 1) (N := some 12) #[true, true, true, false, false, false, false, false, false, false, false, false, false, false, false, false, false, false, false, false, false, false, false, false, false] rfl rfl (one_of HT_.out (by kernel_rfl)) (by decide) (fun K hK => ?_)
     refine goes_ Try.func26 (by kernel_rfl) rfl #[.agg #[.bool a0_0, .int .i64 a0_1, .int .i64 a0_2, .int .i64 a0_3, .int .i64 a0_4, .int .i64 a0_5]] (by rfl) rfl rfl (by (try simp only [List.map_toArray, List.map_cons, List.map_nil]); first | done | rfl | (simp only [List.length_drop, List.length_take]; rfl)) ?_
     with_reducible refine (conf_Task_Right.calls k a0_0 a0_1 a0_2 a0_3 a0_4 a0_5 t366 _ A6.out).mono ?_
     rintro e w26 ⟨rfl, hb⟩
     refine ⟨_, rfl, ?_⟩
     have n0_ := asd (blk_below (g := gb361) (o := .cells #[.bool a0_0, .int .i64 a0_1, .int .i64 a0_2, .int .i64 a0_3, .int .i64 a0_4, .int .i64 a0_5] 56 (0, 0)) (by (with_reducible repeat first | apply bn | apply bd | apply ba); exact BK361.out) hb)
     have n1_ := asd (blk_below (g := gb362) (o := .cells #[.bool a1_0, .int .i64 a1_1, .int .i64 a1_2] 57 (0, 0)) (by (with_reducible repeat first | apply bn | apply bd | apply ba); exact BK362.out) hb)
     have n2_ := asd (blk_below (g := gb363) (o := .cells #[.slice A2_0 l2_0.length c2_0, .slice A2_1 l2_1.length c2_1, .slice A2_2 l2_2.length c2_2, .int .u8 a2_3, .int .u8 a2_4, .int .u8 a2_5] 61 (0, 0)) (by (with_reducible repeat first | apply bn | apply bd | apply ba); exact BK363.out) hb)
     have n3_ := asd (below_step (by repeat (first | (with_reducible first | exact HB.out | apply wa | apply wn | apply wd | refine ws ?_ GE361.out | refine ws ?_ GE362.out | refine ws ?_ GE363.out) | exact HB.out)) hb)
     clear BK361
     clear BK362
     clear BK363
     clear HB
     have BK361 := n0_
     have BK362 := n1_
     have BK363 := n2_
     have HB := n3_
     clear n0_ n1_ n2_ n3_
     (try clear hb)
     (try clear hb2)
     (try clear hk)
     (try clear hi)
     refine hK.out _ _ ⟨(blk_cell BK361.out 0).trans rfl, (blk_cell BK361.out 1).trans rfl, (blk_cell BK361.out 2).trans rfl, (blk_cell BK361.out 3).trans rfl, (blk_cell BK361.out 4).trans rfl, (blk_cell BK361.out 5).trans rfl, (blk_cell BK362.out 0).trans rfl, (blk_cell BK362.out 1).trans rfl, (blk_cell BK362.out 2).trans rfl, (blk_cell BK363.out 0).trans rfl, (blk_cell BK363.out 1).trans rfl, (blk_cell BK363.out 2).trans rfl, (blk_cell BK363.out 3).trans rfl, (blk_cell BK363.out 4).trans rfl, (blk_cell BK363.out 5).trans rfl⟩ (fun hHeld => ?_)
     clear hK K
     refine norm_ (a' := ?_) ?_ ?_
     rotate_left
     ·show Act.put _ (some 12) _ = _
      simp only [Act.put, sB, i64_w, i32_w]
      rfl
     refine one_ (i := 3) (N := some 14) #[true, true, true, true, false, false, false, false, false, false, false, false, false, false, false, false, false, false, false, false, false, false, false, false, false] rfl rfl (one_of HT_.out (by kernel_rfl)) (by decide) (fun K hK => ?_)
     refine goes_ Try.func27 (by kernel_rfl) rfl #[.agg #[.bool a0_0, .int .i64 a0_1, .int .i64 a0_2, .int .i64 a0_3, .int .i64 a0_4, .int .i64 a0_5]] (by rfl) rfl rfl (by (try simp only [List.map_toArray, List.map_cons, List.map_nil]); first | done | rfl | (simp only [List.length_drop, List.length_take]; rfl)) ?_
     with_reducible refine (parcloseref03_RightTask.calls a0_0 a0_1 a0_2 a0_3 a0_4 a0_5 t367 _ A7.out).mono ?_
     rintro e w27 ⟨rfl, hb⟩
     refine ⟨_, rfl, ?_⟩
     have n0_ := asd (blk_below (g := gb361) (o := .cells #[.bool a0_0, .int .i64 a0_1, .int .i64 a0_2, .int .i64 a0_3, .int .i64 a0_4, .int .i64 a0_5] 56 (0, 0)) (by (with_reducible repeat first | apply bn | apply bd | apply ba); exact BK361.out) hb)
     have n1_ := asd (blk_below (g := gb362) (o := .cells #[.bool a1_0, .int .i64 a1_1, .int .i64 a1_2] 57 (0, 0)) (by (with_reducible repeat first | apply bn | apply bd | apply ba); exact BK362.out) hb)
     have n2_ := asd (blk_below (g := gb363) (o := .cells #[.slice A2_0 l2_0.length c2_0, .slice A2_1 l2_1.length c2_1, .slice A2_2 l2_2.length c2_2, .int .u8 a2_3, .int .u8 a2_4, .int .u8 a2_5] 61 (0, 0)) (by (with_reducible repeat first | apply bn | apply bd | apply ba); exact BK363.out) hb)
     have n3_ := asd (below_step (by repeat (first | (with_reducible first | exact HB.out | apply wa | apply wn | apply wd | refine ws ?_ GE361.out | refine ws ?_ GE362.out | refine ws ?_ GE363.out) | exact HB.out)) hb)
     clear BK361
     clear BK362
     clear BK363
     clear HB
     have BK361 := n0_
     have BK362 := n1_
     have BK363 := n2_
     have HB := n3_
     clear n0_ n1_ n2_ n3_
     (try clear hb)
     (try clear hb2)
     (try clear hk)
     (try clear hi)
     refine hK.out _ _ ⟨(blk_cell BK361.out 0).trans rfl, (blk_cell BK361.out 1).trans rfl, (blk_cell BK361.out 2).trans rfl, (blk_cell BK361.out 3).trans rfl, (blk_cell BK361.out 4).trans rfl, (blk_cell BK361.out 5).trans rfl, (blk_cell BK362.out 0).trans rfl, (blk_cell BK362.out 1).trans rfl, (blk_cell BK362.out 2).trans rfl, (blk_cell BK363.out 0).trans rfl, (blk_cell BK363.out 1).trans rfl, (blk_cell BK363.out 2).trans rfl, (blk_cell BK363.out 3).trans rfl, (blk_cell BK363.out 4).trans rfl, (blk_cell BK363.out 5).trans rfl⟩ (fun hHeld => ?_)
     clear hK K
     refine norm_ (a' := ?_) ?_ ?_
     rotate_left
     ·show Act.put _ (some 14) _ = _
      simp only [Act.put, sB, i64_w, i32_w]
      rfl
     refine pure_ (i := 4) (N := some 15) (v := ?_) (a' := ?_) #[true, true, true, true, true, false, false, false, false, false, false, false, false, false, false, false, false, false, false, false, false, false, false, false, false] rfl rfl (any_of HT_.out (by kernel_rfl)) (fun _ _ _ h => h) (Or.inl ⟨by rfl, ?_⟩) ?_ ?_
     rotate_left
     ·intro w'
      go_simp
      with_reducible rfl
     rotate_left
     ·simp only [Act.put, sB, i64_w, i32_w]
      rfl
     refine pure_ (i := 5) (N := some 16) (v := ?_) (a' := ?_) #[true, true, true, true, true, true, false, false, false, false, false, false, false, false, false, false, false, false, false, false, false, false, false, false, false] rfl rfl (any_of HT_.out (by kernel_rfl)) (fun _ _ _ h => h) (Or.inl ⟨by rfl, ?_⟩) ?_ ?_
     rotate_left
     ·intro w'
      go_simp
      with_reducible rfl
     rotate_left
     ·simp only [Act.put, sB, i64_w, i32_w]
      rfl
     refine take_ (i := 6) (N := some 17) (v := ?_) (a' := ?_) #[true, true, true, true, true, true, true, false, false, false, false, false, false, false, false, false, false, false, false, false, false, false, false, false, false] rfl rfl (take_ofW HT_.out HW_.out (by kernel_rfl)) (fun _ _ _ h => h) (Or.inl ⟨by rfl, ?_⟩) hHeld ?_ ?_
     rotate_left
     ·rintro w' ⟨s0, s1, s2, s3, s4, s5, s6, s7, s8, s9, s10, s11, s12, s13, s14⟩
      go_simp
      with_reducible rfl
     rotate_left
     ·simp only [Act.put, sB, i64_w, i32_w]
      rfl
     refine take_ (i := 8) (N := some 19) (v := ?_) (a' := ?_) #[true, true, true, true, true, true, true, false, true, false, false, false, false, false, false, false, false, false, false, false, false, false, false, false, false] rfl rfl (take_ofW HT_.out HW_.out (by kernel_rfl)) (fun _ _ _ h => h) (Or.inl ⟨by rfl, ?_⟩) hHeld ?_ ?_
     rotate_left
     ·rintro w' ⟨s0, s1, s2, s3, s4, s5, s6, s7, s8, s9, s10, s11, s12, s13, s14⟩
      go_simp
      with_reducible rfl
     rotate_left
     ·simp only [Act.put, sB, i64_w, i32_w]
      rfl
     refine one_ (i := 7) (N := some 18) #[true, true, true, true, true, true, true, true, true, false, false, false, false, false, false, false, false, false, false, false, false, false, false, false, false] rfl rfl (one_of HT_.out (by kernel_rfl)) (by decide) (fun K hK => ?_)
     refine goes_ Try.func28 (by kernel_rfl) rfl #[.agg #[.bool a1_0, .int .i64 a1_1, .int .i64 a1_2]] (by rfl) rfl rfl (by (try simp only [List.map_toArray, List.map_cons, List.map_nil]); first | done | rfl | (simp only [List.length_drop, List.length_take]; rfl)) ?_
     with_reducible refine (conf_Server_Right.calls k a1_0 a1_1 a1_2 t368 _ A9.out).mono ?_
     rintro e w28 ⟨rfl, hb⟩
     refine ⟨_, rfl, ?_⟩
     have n0_ := asd (blk_below (g := gb361) (o := .cells #[.bool a0_0, .int .i64 a0_1, .int .i64 a0_2, .int .i64 a0_3, .int .i64 a0_4, .int .i64 a0_5] 56 (0, 0)) (by (with_reducible repeat first | apply bn | apply bd | apply ba); exact BK361.out) hb)
     have n1_ := asd (blk_below (g := gb362) (o := .cells #[.bool a1_0, .int .i64 a1_1, .int .i64 a1_2] 57 (0, 0)) (by (with_reducible repeat first | apply bn | apply bd | apply ba); exact BK362.out) hb)
     have n2_ := asd (blk_below (g := gb363) (o := .cells #[.slice A2_0 l2_0.length c2_0, .slice A2_1 l2_1.length c2_1, .slice A2_2 l2_2.length c2_2, .int .u8 a2_3, .int .u8 a2_4, .int .u8 a2_5] 61 (0, 0)) (by (with_reducible repeat first | apply bn | apply bd | apply ba); exact BK363.out) hb)
     have n3_ := asd (below_step (by repeat (first | (with_reducible first | exact HB.out | apply wa | apply wn | apply wd | refine ws ?_ GE361.out | refine ws ?_ GE362.out | refine ws ?_ GE363.out) | exact HB.out)) hb)
     clear BK361
     clear BK362
     clear BK363
     clear HB
     have BK361 := n0_
     have BK362 := n1_
     have BK363 := n2_
     have HB := n3_
     clear n0_ n1_ n2_ n3_
     (try clear hb)
     (try clear hb2)
     (try clear hk)
     (try clear hi)
     refine hK.out _ _ ⟨(blk_cell BK361.out 0).trans rfl, (blk_cell BK361.out 1).trans rfl, (blk_cell BK361.out 2).trans rfl, (blk_cell BK361.out 3).trans rfl, (blk_cell BK361.out 4).trans rfl, (blk_cell BK361.out 5).trans rfl, (blk_cell BK362.out 0).trans rfl, (blk_cell BK362.out 1).trans rfl, (blk_cell BK362.out 2).trans rfl, (blk_cell BK363.out 0).trans rfl, (blk_cell BK363.out 1).trans rfl, (blk_cell BK363.out 2).trans rfl, (blk_cell BK363.out 3).trans rfl, (blk_cell BK363.out 4).trans rfl, (blk_cell BK363.out 5).trans rfl⟩ (fun hHeld => ?_)
     clear hK K
     refine norm_ (a' := ?_) ?_ ?_
     rotate_left
     ·show Act.put _ (some 18) _ = _
      simp only [Act.put, sB, i64_w, i32_w]
      rfl
     refine one_ (i := 9) (N := some 20) #[true, true, true, true, true, true, true, true, true, true, false, false, false, false, false, false, false, false, false, false, false, false, false, false, false] rfl rfl (one_of HT_.out (by kernel_rfl)) (by decide) (fun K hK => ?_)
     refine goes_ Try.func29 (by kernel_rfl) rfl #[.agg #[.bool a1_0, .int .i64 a1_1, .int .i64 a1_2]] (by rfl) rfl rfl (by (try simp only [List.map_toArray, List.map_cons, List.map_nil]); first | done | rfl | (simp only [List.length_drop, List.length_take]; rfl)) ?_
     with_reducible refine (parcloseref03_RightServer.calls a1_0 a1_1 a1_2 t369 _ A10.out).mono ?_
     rintro e w29 ⟨rfl, hb⟩
     refine ⟨_, rfl, ?_⟩
     have n0_ := asd (blk_below (g := gb361) (o := .cells #[.bool a0_0, .int .i64 a0_1, .int .i64 a0_2, .int .i64 a0_3, .int .i64 a0_4, .int .i64 a0_5] 56 (0, 0)) (by (with_reducible repeat first | apply bn | apply bd | apply ba); exact BK361.out) hb)
     have n1_ := asd (blk_below (g := gb362) (o := .cells #[.bool a1_0, .int .i64 a1_1, .int .i64 a1_2] 57 (0, 0)) (by (with_reducible repeat first | apply bn | apply bd | apply ba); exact BK362.out) hb)
     have n2_ := asd (blk_below (g := gb363) (o := .cells #[.slice A2_0 l2_0.length c2_0, .slice A2_1 l2_1.length c2_1, .slice A2_2 l2_2.length c2_2, .int .u8 a2_3, .int .u8 a2_4, .int .u8 a2_5] 61 (0, 0)) (by (with_reducible repeat first | apply bn | apply bd | apply ba); exact BK363.out) hb)
     have n3_ := asd (below_step (by repeat (first | (with_reducible first | exact HB.out | apply wa | apply wn | apply wd | refine ws ?_ GE361.out | refine ws ?_ GE362.out | refine ws ?_ GE363.out) | exact HB.out)) hb)
     clear BK361
     clear BK362
     clear BK363
     clear HB
     have BK361 := n0_
     have BK362 := n1_
     have BK363 := n2_
     have HB := n3_
     clear n0_ n1_ n2_ n3_
     (try clear hb)
     (try clear hb2)
     (try clear hk)
     (try clear hi)
     refine hK.out _ _ ⟨(blk_cell BK361.out 0).trans rfl, (blk_cell BK361.out 1).trans rfl, (blk_cell BK361.out 2).trans rfl, (blk_cell BK361.out 3).trans rfl, (blk_cell BK361.out 4).trans rfl, (blk_cell BK361.out 5).trans rfl, (blk_cell BK362.out 0).trans rfl, (blk_cell BK362.out 1).trans rfl, (blk_cell BK362.out 2).trans rfl, (blk_cell BK363.out 0).trans rfl, (blk_cell BK363.out 1).trans rfl, (blk_cell BK363.out 2).trans rfl, (blk_cell BK363.out 3).trans rfl, (blk_cell BK363.out 4).trans rfl, (blk_cell BK363.out 5).trans rfl⟩ (fun hHeld => ?_)
     clear hK K
     refine norm_ (a' := ?_) ?_ ?_
     rotate_left
     ·show Act.put _ (some 20) _ = _
      simp only [Act.put, sB, i64_w, i32_w]
      rfl
     refine pure_ (i := 10) (N := some 21) (v := ?_) (a' := ?_) #[true, true, true, true, true, true, true, true, true, true, true, false, false, false, false, false, false, false, false, false, false, false, false, false, false] rfl rfl (any_of HT_.out (by kernel_rfl)) (fun _ _ _ h => h) (Or.inl ⟨by rfl, ?_⟩) ?_ ?_
     rotate_left
     ·intro w'
      go_simp
      with_reducible rfl
     rotate_left
     ·simp only [Act.put, sB, i64_w, i32_w]
      rfl
     refine pure_ (i := 11) (N := some 22) (v := ?_) (a' := ?_) #[true, true, true, true, true, true, true, true, true, true, true, true, false, false, false, false, false, false, false, false, false, false, false, false, false] rfl rfl (any_of HT_.out (by kernel_rfl)) (fun _ _ _ h => h) (Or.inl ⟨by rfl, ?_⟩) ?_ ?_
     rotate_left
     ·intro w'
      go_simp
      with_reducible rfl
     rotate_left
     ·simp only [Act.put, sB, i64_w, i32_w]
      rfl
     refine pure_ (i := 12) (N := some 23) (v := ?_) (a' := ?_) #[true, true, true, true, true, true, true, true, true, true, true, true, true, false, false, false, false, false, false, false, false, false, false, false, false] rfl rfl (any_of HT_.out (by kernel_rfl)) (fun _ _ _ h => h) (Or.inl ⟨by rfl, ?_⟩) ?_ ?_
     rotate_left
     ·intro w'
      go_simp
      with_reducible rfl
     rotate_left
     ·simp only [Act.put, sB, i64_w, i32_w]
      rfl
     refine take_ (i := 13) (N := some 24) (v := ?_) (a' := ?_) #[true, true, true, true, true, true, true, true, true, true, true, true, true, true, false, false, false, false, false, false, false, false, false, false, false] rfl rfl (take_ofW HT_.out HW_.out (by kernel_rfl)) (fun _ _ _ h => h) (Or.inl ⟨by rfl, ?_⟩) hHeld ?_ ?_
     rotate_left
     ·rintro w' ⟨s0, s1, s2, s3, s4, s5, s6, s7, s8, s9, s10, s11, s12, s13, s14⟩
      go_simp
      with_reducible rfl
     rotate_left
     ·simp only [Act.put, sB, i64_w, i32_w]
      rfl
     refine take_ (i := 17) (N := some 28) (v := ?_) (a' := ?_) #[true, true, true, true, true, true, true, true, true, true, true, true, true, true, false, false, false, true, false, false, false, false, false, false, false] rfl rfl (take_ofW HT_.out HW_.out (by kernel_rfl)) (fun _ _ _ h => h) (Or.inl ⟨by rfl, ?_⟩) hHeld ?_ ?_
     rotate_left
     ·rintro w' ⟨s0, s1, s2, s3, s4, s5, s6, s7, s8, s9, s10, s11, s12, s13, s14⟩
      go_simp
      with_reducible rfl
     rotate_left
     ·simp only [Act.put, sB, i64_w, i32_w]
      rfl
     refine one_ (i := 14) (N := some 25) #[true, true, true, true, true, true, true, true, true, true, true, true, true, true, true, false, false, true, false, false, false, false, false, false, false] rfl rfl (one_of HT_.out (by kernel_rfl)) (by decide) (fun K hK => ?_)
     refine goes_ Try.func31 (by kernel_rfl) rfl #[.agg #[.slice A2_0 l2_0.length c2_0, .slice A2_1 l2_1.length c2_1, .slice A2_2 l2_2.length c2_2, .int .u8 a2_3, .int .u8 a2_4, .int .u8 a2_5]] (by rfl) rfl rfl (by (try simp only [List.map_toArray, List.map_cons, List.map_nil]); first | done | rfl | (simp only [List.length_drop, List.length_take]; rfl)) ?_
     with_reducible refine (parcloselaw03_Part.calls k _ _ l2_0 _ _ l2_1 _ _ l2_2 a2_3 a2_4 a2_5 t370 t373 t376 t379 t380 t381 _ ?side1 ?side2 ?side3 ?side4 ?side5 ?side6 A12.out).mono ?_
     (case side1 => repeat (first | exact (Kd.C_below HR2_0.out HB.out) | (with_reducible refine Kd.C_alloc ?_ _) | (with_reducible refine Kd.C_drewN ?_ _) | (with_reducible refine Kd.C_drew ?_)))
     (case side2 => exact HC2_0.out)
     (case side3 => repeat (first | exact (Kd.C_below HR2_1.out HB.out) | (with_reducible refine Kd.C_alloc ?_ _) | (with_reducible refine Kd.C_drewN ?_ _) | (with_reducible refine Kd.C_drew ?_)))
     (case side4 => exact HC2_1.out)
     (case side5 => repeat (first | exact (Kd.C_below HR2_2.out HB.out) | (with_reducible refine Kd.C_alloc ?_ _) | (with_reducible refine Kd.C_drewN ?_ _) | (with_reducible refine Kd.C_drew ?_)))
     (case side6 => exact HC2_2.out)
     rintro e w30 ⟨v371, v374, v377, rfl, ho0, ho1, ho2, hb⟩
     refine ⟨_, rfl, ?_⟩
     have n0_ := asd (Kd.R_lower ho0 (below_size (by repeat (first | (with_reducible first | exact HB.out | apply wa | apply wn | apply wd | refine ws ?_ GE361.out | refine ws ?_ GE362.out | refine ws ?_ GE363.out) | exact HB.out))))
     have n1_ := asd (Kd.R_lower ho1 (below_size (by repeat (first | (with_reducible first | exact HB.out | apply wa | apply wn | apply wd | refine ws ?_ GE361.out | refine ws ?_ GE362.out | refine ws ?_ GE363.out) | exact HB.out))))
     have n2_ := asd (Kd.R_lower ho2 (below_size (by repeat (first | (with_reducible first | exact HB.out | apply wa | apply wn | apply wd | refine ws ?_ GE361.out | refine ws ?_ GE362.out | refine ws ?_ GE363.out) | exact HB.out))))
     have n3_ := asd (blk_below (g := gb361) (o := .cells #[.bool a0_0, .int .i64 a0_1, .int .i64 a0_2, .int .i64 a0_3, .int .i64 a0_4, .int .i64 a0_5] 56 (0, 0)) (by (with_reducible repeat first | apply bn | apply bd | apply ba); exact BK361.out) hb)
     have n4_ := asd (blk_below (g := gb362) (o := .cells #[.bool a1_0, .int .i64 a1_1, .int .i64 a1_2] 57 (0, 0)) (by (with_reducible repeat first | apply bn | apply bd | apply ba); exact BK362.out) hb)
     have n5_ := asd (blk_below (g := gb363) (o := .cells #[.slice A2_0 l2_0.length c2_0, .slice A2_1 l2_1.length c2_1, .slice A2_2 l2_2.length c2_2, .int .u8 a2_3, .int .u8 a2_4, .int .u8 a2_5] 61 (0, 0)) (by (with_reducible repeat first | apply bn | apply bd | apply ba); exact BK363.out) hb)
     have n6_ := asd (below_step (by repeat (first | (with_reducible first | exact HB.out | apply wa | apply wn | apply wd | refine ws ?_ GE361.out | refine ws ?_ GE362.out | refine ws ?_ GE363.out) | exact HB.out)) hb)
     clear BK361
     clear BK362
     clear BK363
     clear HB
     have HO372 := n0_
     have HO375 := n1_
     have HO378 := n2_
     have BK361 := n3_
     have BK362 := n4_
     have BK363 := n5_
     have HB := n6_
     clear n0_ n1_ n2_ n3_ n4_ n5_ n6_
     (try clear hb)
     (try clear hb2)
     (try clear hk)
     (try clear hi)
     (try clear ho0)
     (try clear ho1)
     (try clear ho2)
     obtain ⟨Ao31, co31, eo31⟩ := Kd.R_slice HO372.out
     (first | subst eo31 | (injection eo31 with f1_ f2_ f3_; have f4_ := f1_.symm; have f5_ := f3_.symm; clear f1_ f2_ f3_; subst f4_; subst f5_))
     obtain ⟨Ao32, co32, eo32⟩ := Kd.R_slice HO375.out
     (first | subst eo32 | (injection eo32 with f1_ f2_ f3_; have f4_ := f1_.symm; have f5_ := f3_.symm; clear f1_ f2_ f3_; subst f4_; subst f5_))
     obtain ⟨Ao33, co33, eo33⟩ := Kd.R_slice HO378.out
     (first | subst eo33 | (injection eo33 with f1_ f2_ f3_; have f4_ := f1_.symm; have f5_ := f3_.symm; clear f1_ f2_ f3_; subst f4_; subst f5_))
     refine hK.out _ _ ⟨(blk_cell BK361.out 0).trans rfl, (blk_cell BK361.out 1).trans rfl, (blk_cell BK361.out 2).trans rfl, (blk_cell BK361.out 3).trans rfl, (blk_cell BK361.out 4).trans rfl, (blk_cell BK361.out 5).trans rfl, (blk_cell BK362.out 0).trans rfl, (blk_cell BK362.out 1).trans rfl, (blk_cell BK362.out 2).trans rfl, (blk_cell BK363.out 0).trans rfl, (blk_cell BK363.out 1).trans rfl, (blk_cell BK363.out 2).trans rfl, (blk_cell BK363.out 3).trans rfl, (blk_cell BK363.out 4).trans rfl, (blk_cell BK363.out 5).trans rfl⟩ (fun hHeld => ?_)
     clear hK K
     refine norm_ (a' := ?_) ?_ ?_
     rotate_left
     ·show Act.put _ (some 25) _ = _
      simp only [Act.put, sB, i64_w, i32_w]
      rfl
     refine one_ (i := 15) (N := some 26) #[true, true, true, true, true, true, true, true, true, true, true, true, true, true, true, true, false, true, false, false, false, false, false, false, false] rfl rfl (one_of HT_.out (by kernel_rfl)) (by decide) (fun K hK => ?_)
     refine goes_ Try.func32 (by kernel_rfl) rfl #[.agg #[.slice Ao31 t370.length co31, .slice Ao32 t373.length co32, .slice Ao33 t376.length co33, .int .u8 t379, .int .u8 t380, .int .u8 t381]] (by rfl) rfl rfl (by (try simp only [List.map_toArray, List.map_cons, List.map_nil]); first | done | rfl | (simp only [List.length_drop, List.length_take]; rfl)) ?_
     with_reducible refine (conf_Part_Rights.calls k _ _ t370 _ _ t373 _ _ t376 t379 t380 t381 t382 _ ?side1 ?side2 ?side3 ?side4 ?side5 ?side6 A13.out).mono ?_
     (case side1 => repeat (first | exact (Kd.R_reads' HO372.out).2.2 | (with_reducible refine Kd.C_alloc ?_ _) | (with_reducible refine Kd.C_drewN ?_ _) | (with_reducible refine Kd.C_drew ?_)))
     (case side2 => exact (Kd.R_reads' HO372.out).2.1)
     (case side3 => repeat (first | exact (Kd.R_reads' HO375.out).2.2 | (with_reducible refine Kd.C_alloc ?_ _) | (with_reducible refine Kd.C_drewN ?_ _) | (with_reducible refine Kd.C_drew ?_)))
     (case side4 => exact (Kd.R_reads' HO375.out).2.1)
     (case side5 => repeat (first | exact (Kd.R_reads' HO378.out).2.2 | (with_reducible refine Kd.C_alloc ?_ _) | (with_reducible refine Kd.C_drewN ?_ _) | (with_reducible refine Kd.C_drew ?_)))
     (case side6 => exact (Kd.R_reads' HO378.out).2.1)
     rintro e w34 ⟨rfl, hb⟩
     refine ⟨_, rfl, ?_⟩
     have n0_ := asd (Kd.R_below (by (with_reducible repeat (first | apply Kd.R_alloc | apply Kd.R_drewN | apply Kd.R_drew)); exact HO372.out) hb)
     have n1_ := asd (Kd.R_below (by (with_reducible repeat (first | apply Kd.R_alloc | apply Kd.R_drewN | apply Kd.R_drew)); exact HO375.out) hb)
     have n2_ := asd (Kd.R_below (by (with_reducible repeat (first | apply Kd.R_alloc | apply Kd.R_drewN | apply Kd.R_drew)); exact HO378.out) hb)
     have n3_ := asd (blk_below (g := gb361) (o := .cells #[.bool a0_0, .int .i64 a0_1, .int .i64 a0_2, .int .i64 a0_3, .int .i64 a0_4, .int .i64 a0_5] 56 (0, 0)) (by (with_reducible repeat first | apply bn | apply bd | apply ba); exact BK361.out) hb)
     have n4_ := asd (blk_below (g := gb362) (o := .cells #[.bool a1_0, .int .i64 a1_1, .int .i64 a1_2] 57 (0, 0)) (by (with_reducible repeat first | apply bn | apply bd | apply ba); exact BK362.out) hb)
     have n5_ := asd (blk_below (g := gb363) (o := .cells #[.slice A2_0 l2_0.length c2_0, .slice A2_1 l2_1.length c2_1, .slice A2_2 l2_2.length c2_2, .int .u8 a2_3, .int .u8 a2_4, .int .u8 a2_5] 61 (0, 0)) (by (with_reducible repeat first | apply bn | apply bd | apply ba); exact BK363.out) hb)
     have n6_ := asd (below_step (by repeat (first | (with_reducible first | exact HB.out | apply wa | apply wn | apply wd | refine ws ?_ GE361.out | refine ws ?_ GE362.out | refine ws ?_ GE363.out) | exact HB.out)) hb)
     clear HO372
     clear HO375
     clear HO378
     clear BK361
     clear BK362
     clear BK363
     clear HB
     have HO372 := n0_
     have HO375 := n1_
     have HO378 := n2_
     have BK361 := n3_
     have BK362 := n4_
     have BK363 := n5_
     have HB := n6_
     clear n0_ n1_ n2_ n3_ n4_ n5_ n6_
     (try clear hb)
     (try clear hb2)
     (try clear hk)
     (try clear hi)
     refine hK.out _ _ ⟨(blk_cell BK361.out 0).trans rfl, (blk_cell BK361.out 1).trans rfl, (blk_cell BK361.out 2).trans rfl, (blk_cell BK361.out 3).trans rfl, (blk_cell BK361.out 4).trans rfl, (blk_cell BK361.out 5).trans rfl, (blk_cell BK362.out 0).trans rfl, (blk_cell BK362.out 1).trans rfl, (blk_cell BK362.out 2).trans rfl, (blk_cell BK363.out 0).trans rfl, (blk_cell BK363.out 1).trans rfl, (blk_cell BK363.out 2).trans rfl, (blk_cell BK363.out 3).trans rfl, (blk_cell BK363.out 4).trans rfl, (blk_cell BK363.out 5).trans rfl⟩ (fun hHeld => ?_)
     clear hK K
     refine norm_ (a' := ?_) ?_ ?_
     rotate_left
     ·show Act.put _ (some 26) _ = _
      simp only [Act.put, sB, i64_w, i32_w]
      rfl
     refine one_ (i := 16) (N := some 27) #[true, true, true, true, true, true, true, true, true, true, true, true, true, true, true, true, true, true, false, false, false, false, false, false, false] rfl rfl (one_of HT_.out (by kernel_rfl)) (by decide) (fun K hK => ?_)
     refine goes_ Try.func30 (by kernel_rfl) rfl #[.int .i64 t382] (by rfl) rfl rfl (by (try simp only [List.map_toArray, List.map_cons, List.map_nil]); first | done | rfl | (simp only [List.length_drop, List.length_take]; rfl)) ?_
     with_reducible refine (parcloselaw03_num.calls t382 t383 _ A14.out).mono ?_
     rintro e w' ⟨rfl, ⟨nd, rfl⟩⟩
     refine ⟨_, rfl, ?_⟩
     refine hK.out _ _ ⟨(blk_cell BK361.out 0).trans rfl, (blk_cell BK361.out 1).trans rfl, (blk_cell BK361.out 2).trans rfl, (blk_cell BK361.out 3).trans rfl, (blk_cell BK361.out 4).trans rfl, (blk_cell BK361.out 5).trans rfl, (blk_cell BK362.out 0).trans rfl, (blk_cell BK362.out 1).trans rfl, (blk_cell BK362.out 2).trans rfl, (blk_cell BK363.out 0).trans rfl, (blk_cell BK363.out 1).trans rfl, (blk_cell BK363.out 2).trans rfl, (blk_cell BK363.out 3).trans rfl, (blk_cell BK363.out 4).trans rfl, (blk_cell BK363.out 5).trans rfl⟩ (fun hHeld => ?_)
     clear hK K
     refine norm_ (a' := ?_) ?_ ?_
     rotate_left
     ·show Act.put _ (some 27) _ = _
      simp only [Act.put, sB, i64_w, i32_w]
      rfl
     refine one_ (i := 18) (N := some 29) #[true, true, true, true, true, true, true, true, true, true, true, true, true, true, true, true, true, true, true, false, false, false, false, false, false] rfl rfl (one_of HT_.out (by kernel_rfl)) (by decide) (fun K hK => ?_)
     refine goes_ Try.func33 (by kernel_rfl) rfl #[.agg #[.slice A2_0 l2_0.length c2_0, .slice A2_1 l2_1.length c2_1, .slice A2_2 l2_2.length c2_2, .int .u8 a2_3, .int .u8 a2_4, .int .u8 a2_5]] (by rfl) rfl rfl (by (try simp only [List.map_toArray, List.map_cons, List.map_nil]); first | done | rfl | (simp only [List.length_drop, List.length_take]; rfl)) ?_
     with_reducible refine (parcloseref03_Rights.calls _ _ l2_0 _ _ l2_1 _ _ l2_2 a2_3 a2_4 a2_5 t384 _ ?side1 ?side2 ?side3 ?side4 ?side5 ?side6 A15.out).mono ?_
     (case side1 => repeat (first | exact (Kd.C_below HR2_0.out (by repeat (first | (with_reducible first | exact HB.out | apply wa | apply wn | apply wd | refine ws ?_ GE361.out | refine ws ?_ GE362.out | refine ws ?_ GE363.out) | exact HB.out))) | (with_reducible refine Kd.C_alloc ?_ _) | (with_reducible refine Kd.C_drewN ?_ _) | (with_reducible refine Kd.C_drew ?_)))
     (case side2 => exact HC2_0.out)
     (case side3 => repeat (first | exact (Kd.C_below HR2_1.out (by repeat (first | (with_reducible first | exact HB.out | apply wa | apply wn | apply wd | refine ws ?_ GE361.out | refine ws ?_ GE362.out | refine ws ?_ GE363.out) | exact HB.out))) | (with_reducible refine Kd.C_alloc ?_ _) | (with_reducible refine Kd.C_drewN ?_ _) | (with_reducible refine Kd.C_drew ?_)))
     (case side4 => exact HC2_1.out)
     (case side5 => repeat (first | exact (Kd.C_below HR2_2.out (by repeat (first | (with_reducible first | exact HB.out | apply wa | apply wn | apply wd | refine ws ?_ GE361.out | refine ws ?_ GE362.out | refine ws ?_ GE363.out) | exact HB.out))) | (with_reducible refine Kd.C_alloc ?_ _) | (with_reducible refine Kd.C_drewN ?_ _) | (with_reducible refine Kd.C_drew ?_)))
     (case side6 => exact HC2_2.out)
     rintro e w35 ⟨rfl, hb⟩
     refine ⟨_, rfl, ?_⟩
     have n0_ := asd (Kd.R_below (by (with_reducible repeat (first | apply Kd.R_alloc | apply Kd.R_drewN | apply Kd.R_drew)); exact HO372.out) hb)
     have n1_ := asd (Kd.R_below (by (with_reducible repeat (first | apply Kd.R_alloc | apply Kd.R_drewN | apply Kd.R_drew)); exact HO375.out) hb)
     have n2_ := asd (Kd.R_below (by (with_reducible repeat (first | apply Kd.R_alloc | apply Kd.R_drewN | apply Kd.R_drew)); exact HO378.out) hb)
     have n3_ := asd (blk_below (g := gb361) (o := .cells #[.bool a0_0, .int .i64 a0_1, .int .i64 a0_2, .int .i64 a0_3, .int .i64 a0_4, .int .i64 a0_5] 56 (0, 0)) (by (with_reducible repeat first | apply bn | apply bd | apply ba); exact BK361.out) hb)
     have n4_ := asd (blk_below (g := gb362) (o := .cells #[.bool a1_0, .int .i64 a1_1, .int .i64 a1_2] 57 (0, 0)) (by (with_reducible repeat first | apply bn | apply bd | apply ba); exact BK362.out) hb)
     have n5_ := asd (blk_below (g := gb363) (o := .cells #[.slice A2_0 l2_0.length c2_0, .slice A2_1 l2_1.length c2_1, .slice A2_2 l2_2.length c2_2, .int .u8 a2_3, .int .u8 a2_4, .int .u8 a2_5] 61 (0, 0)) (by (with_reducible repeat first | apply bn | apply bd | apply ba); exact BK363.out) hb)
     have n6_ := asd (below_step (by repeat (first | (with_reducible first | exact HB.out | apply wa | apply wn | apply wd | refine ws ?_ GE361.out | refine ws ?_ GE362.out | refine ws ?_ GE363.out) | exact HB.out)) hb)
     clear HO372
     clear HO375
     clear HO378
     clear BK361
     clear BK362
     clear BK363
     clear HB
     have HO372 := n0_
     have HO375 := n1_
     have HO378 := n2_
     have BK361 := n3_
     have BK362 := n4_
     have BK363 := n5_
     have HB := n6_
     clear n0_ n1_ n2_ n3_ n4_ n5_ n6_
     (try clear hb)
     (try clear hb2)
     (try clear hk)
     (try clear hi)
     refine hK.out _ _ ⟨(blk_cell BK361.out 0).trans rfl, (blk_cell BK361.out 1).trans rfl, (blk_cell BK361.out 2).trans rfl, (blk_cell BK361.out 3).trans rfl, (blk_cell BK361.out 4).trans rfl, (blk_cell BK361.out 5).trans rfl, (blk_cell BK362.out 0).trans rfl, (blk_cell BK362.out 1).trans rfl, (blk_cell BK362.out 2).trans rfl, (blk_cell BK363.out 0).trans rfl, (blk_cell BK363.out 1).trans rfl, (blk_cell BK363.out 2).trans rfl, (blk_cell BK363.out 3).trans rfl, (blk_cell BK363.out 4).trans rfl, (blk_cell BK363.out 5).trans rfl⟩ (fun hHeld => ?_)
     clear hK K
     refine norm_ (a' := ?_) ?_ ?_
     rotate_left
     ·show Act.put _ (some 29) _ = _
      simp only [Act.put, sB, i64_w, i32_w]
      rfl
     refine pure_ (i := 19) (N := some 30) (v := ?_) (a' := ?_) #[true, true, true, true, true, true, true, true, true, true, true, true, true, true, true, true, true, true, true, true, false, false, false, false, false] rfl rfl (any_of HT_.out (by kernel_rfl)) (fun _ _ _ h => h) (Or.inl ⟨by rfl, ?_⟩) ?_ ?_
     rotate_left
     ·intro w'
      go_simp
      with_reducible rfl
     rotate_left
     ·simp only [Act.put, sB, i64_w, i32_w]
      rfl
     refine pure_ (i := 20) (N := some 31) (v := ?_) (a' := ?_) #[true, true, true, true, true, true, true, true, true, true, true, true, true, true, true, true, true, true, true, true, true, false, false, false, false] rfl rfl (any_of HT_.out (by kernel_rfl)) (fun _ _ _ h => h) (Or.inl ⟨by rfl, ?_⟩) ?_ ?_
     rotate_left
     ·intro w'
      go_simp
      with_reducible rfl
     rotate_left
     ·simp only [Act.put, sB, i64_w, i32_w]
      rfl
     refine pure_ (i := 21) (N := some 32) (v := ?_) (a' := ?_) #[true, true, true, true, true, true, true, true, true, true, true, true, true, true, true, true, true, true, true, true, true, true, false, false, false] rfl rfl (any_of HT_.out (by kernel_rfl)) (fun _ _ _ h => h) (Or.inl ⟨by rfl, ?_⟩) ?_ ?_
     rotate_left
     ·intro w'
      go_simp
      with_reducible rfl
     rotate_left
     ·simp only [Act.put, sB, i64_w, i32_w]
      rfl
     refine one_ (i := 22) (N := some 33) #[true, true, true, true, true, true, true, true, true, true, true, true, true, true, true, true, true, true, true, true, true, true, true, false, false] rfl rfl (one_of HT_.out (by kernel_rfl)) (by decide) (fun K hK => ?_)
     refine goes_ Try.func16 (by kernel_rfl) rfl #[] (by rfl) rfl rfl (by (try simp only [List.map_toArray, List.map_cons, List.map_nil]); first | done | rfl | (simp only [List.length_drop, List.length_take]; rfl)) ?_
     with_reducible refine (parcloselaw03_knows.calls k  t385 _ A17.out).mono ?_
     rintro e w36 ⟨rfl, hb⟩
     refine ⟨_, rfl, ?_⟩
     have n0_ := asd (Kd.R_below (by (with_reducible repeat (first | apply Kd.R_alloc | apply Kd.R_drewN | apply Kd.R_drew)); exact HO372.out) hb)
     have n1_ := asd (Kd.R_below (by (with_reducible repeat (first | apply Kd.R_alloc | apply Kd.R_drewN | apply Kd.R_drew)); exact HO375.out) hb)
     have n2_ := asd (Kd.R_below (by (with_reducible repeat (first | apply Kd.R_alloc | apply Kd.R_drewN | apply Kd.R_drew)); exact HO378.out) hb)
     have n3_ := asd (blk_below (g := gb361) (o := .cells #[.bool a0_0, .int .i64 a0_1, .int .i64 a0_2, .int .i64 a0_3, .int .i64 a0_4, .int .i64 a0_5] 56 (0, 0)) (by (with_reducible repeat first | apply bn | apply bd | apply ba); exact BK361.out) hb)
     have n4_ := asd (blk_below (g := gb362) (o := .cells #[.bool a1_0, .int .i64 a1_1, .int .i64 a1_2] 57 (0, 0)) (by (with_reducible repeat first | apply bn | apply bd | apply ba); exact BK362.out) hb)
     have n5_ := asd (blk_below (g := gb363) (o := .cells #[.slice A2_0 l2_0.length c2_0, .slice A2_1 l2_1.length c2_1, .slice A2_2 l2_2.length c2_2, .int .u8 a2_3, .int .u8 a2_4, .int .u8 a2_5] 61 (0, 0)) (by (with_reducible repeat first | apply bn | apply bd | apply ba); exact BK363.out) hb)
     have n6_ := asd (below_step (by repeat (first | (with_reducible first | exact HB.out | apply wa | apply wn | apply wd | refine ws ?_ GE361.out | refine ws ?_ GE362.out | refine ws ?_ GE363.out) | exact HB.out)) hb)
     clear HO372
     clear HO375
     clear HO378
     clear BK361
     clear BK362
     clear BK363
     clear HB
     have HO372 := n0_
     have HO375 := n1_
     have HO378 := n2_
     have BK361 := n3_
     have BK362 := n4_
     have BK363 := n5_
     have HB := n6_
     clear n0_ n1_ n2_ n3_ n4_ n5_ n6_
     (try clear hb)
     (try clear hb2)
     (try clear hk)
     (try clear hi)
     refine hK.out _ _ ⟨(blk_cell BK361.out 0).trans rfl, (blk_cell BK361.out 1).trans rfl, (blk_cell BK361.out 2).trans rfl, (blk_cell BK361.out 3).trans rfl, (blk_cell BK361.out 4).trans rfl, (blk_cell BK361.out 5).trans rfl, (blk_cell BK362.out 0).trans rfl, (blk_cell BK362.out 1).trans rfl, (blk_cell BK362.out 2).trans rfl, (blk_cell BK363.out 0).trans rfl, (blk_cell BK363.out 1).trans rfl, (blk_cell BK363.out 2).trans rfl, (blk_cell BK363.out 3).trans rfl, (blk_cell BK363.out 4).trans rfl, (blk_cell BK363.out 5).trans rfl⟩ (fun hHeld => ?_)
     clear hK K
     refine norm_ (a' := ?_) ?_ ?_
     rotate_left
     ·show Act.put _ (some 33) _ = _
      simp only [Act.put, sB, i64_w, i32_w]
      rfl
     refine pure_ (i := 23) (N := some 34) (v := ?_) (a' := ?_) #[true, true, true, true, true, true, true, true, true, true, true, true, true, true, true, true, true, true, true, true, true, true, true, true, false] rfl rfl (any_of HT_.out (by kernel_rfl)) (fun _ _ _ h => h) (Or.inl ⟨by rfl, ?_⟩) ?_ ?_
     rotate_left
     ·intro w'
      go_simp
      with_reducible rfl
     rotate_left
     ·simp only [Act.put, sB, i64_w, i32_w]
      rfl
     refine pure_ (i := 24) (N := some 6) (v := ?_) (a' := ?_) #[true, true, true, true, true, true, true, true, true, true, true, true, true, true, true, true, true, true, true, true, true, true, true, true, true] rfl rfl (any_of HT_.out (by kernel_rfl)) (fun _ _ _ h => h) (Or.inl ⟨by rfl, ?_⟩) ?_ ?_
     rotate_left
     ·intro w'
      go_simp
      with_reducible rfl
     rotate_left
     ·simp only [Act.put, sB, i64_w, i32_w]
      rfl
     refine done_ (done_of HT_.out (by kernel_rfl)) ?_
     try go_wp2
     go_ret
     exact ⟨by first | rfl | (simp [*] <;> rfl), by repeat (first | (with_reducible first | exact HB.out | apply wa | apply wn | apply wd | refine ws ?_ GE361.out | refine ws ?_ GE362.out | refine ws ?_ GE363.out) | exact HB.out)⟩
    ·rw [if_neg c16] at H
     have c16b0 : (t383 == t384) = false := beq_eq_false_iff_ne.mpr c16
     have c16b1 : (t383 != t384) = true := bne_iff_ne.mpr c16
     exact absurd (Option.some.inj H) (by rw [HR__.out]; decide)
   ·rw [if_neg c11] at H
    have c11b0 : (t368 == t369) = false := by simpa using c11
    (try (have c11b1 : decide (t368 = t369) = false := by simpa using c11))
    (try (have c11b2 : (t368 == t369) = false := by simpa using c11))
    (try (have c11b3 : ¬ (t368 = t369) := by simpa using c11))
    clear c11
    exact absurd (Option.some.inj H) (by rw [HR__.out]; decide)
  ·rw [if_neg c8] at H
   have c8b0 : (t366 == t367) = false := by simpa using c8
   (try (have c8b1 : decide (t366 = t367) = false := by simpa using c8))
   (try (have c8b2 : (t366 == t367) = false := by simpa using c8))
   (try (have c8b3 : ¬ (t366 = t367) := by simpa using c8))
   clear c8
   exact absurd (Option.some.inj H) (by rw [HR__.out]; decide)
 ·replace c5 := Bool.eq_false_iff.mpr c5
  subst c5
  have H1 : ((parcloselaw03_knows.f k).bind fun t365 => (some t365)) = some r := by rw [if_neg (show ¬ (false = true) by decide)] at H; exact H
  clear H
  have H := H1
  clear H1
  replace H := Option.bind_eq_some_iff.mp H
  obtain ⟨t365, A370, H⟩ := H
  replace H : (some t365) = some r := H
  have A37 := asd A370
  clear A370
  obtain rfl := Option.some.inj H
  go_enter Try.func5, Try.ntmps5
  go_wp2_with (first | ((with_reducible refine gate_dst (N := 3) rfl ?_); refine box_event ?hg (N := 3) ?hd (cs := #[.bool a0_0, .int .i64 a0_1, .int .i64 a0_2, .int .i64 a0_3, .int .i64 a0_4, .int .i64 a0_5]) (t := 56) ?hr ?_; (case hd => rfl); (case hg => rfl); (case hr => first | (go_simp; done) | (go_simp; rfl)); intro gb361 hg w38 hbox hb; have n0_ := asd (below_step (by repeat (first | (with_reducible first | exact HB.out | apply wa | apply wn | apply wd) | exact HB.out)) hb); have n1_ := asd (hbox); have n2_ := asd ((by rw [hg]; exact (below_size (by repeat (first | (with_reducible first | exact HB.out | apply wa | apply wn | apply wd) | exact HB.out))) : w.heap.size ≤ gb361)); have n3_ := asd ((by rw [hg]; exact (below_size (by repeat (first | (with_reducible first | exact HB.out | apply wa | apply wn | apply wd) | exact HB.out))) : w.heap.size ≤ gb361)); clear HB; have HB := n0_; have BK361 := n1_; have GW361 := n2_; have GE361 := n3_; clear n0_ n1_ n2_ n3_; clear hb hbox hg) | ((with_reducible refine gate_dst (N := 4) rfl ?_); refine box_event ?hg (N := 4) ?hd (cs := #[.bool a1_0, .int .i64 a1_1, .int .i64 a1_2]) (t := 57) ?hr ?_; (case hd => rfl); (case hg => rfl); (case hr => first | (go_simp; done) | (go_simp; rfl)); intro gb362 hg w39 hbox hb; have n0_ := asd (blk_below (g := gb361) (o := .cells #[.bool a0_0, .int .i64 a0_1, .int .i64 a0_2, .int .i64 a0_3, .int .i64 a0_4, .int .i64 a0_5] 56 (0, 0)) (by (with_reducible repeat first | apply bn | apply bd | apply ba); exact BK361.out) hb); have n1_ := asd (below_step (by repeat (first | (with_reducible first | exact HB.out | apply wa | apply wn | apply wd | refine ws ?_ GE361.out) | exact HB.out)) hb); have n2_ := asd (hbox); have n3_ := asd ((by rw [hg]; exact (below_size (by repeat (first | (with_reducible first | exact HB.out | apply wa | apply wn | apply wd | refine ws ?_ GE361.out) | exact HB.out))) : w.heap.size ≤ gb362)); have n4_ := asd ((by rw [hg]; exact (below_size (by repeat (first | (with_reducible first | exact HB.out | apply wa | apply wn | apply wd | refine ws ?_ GE361.out) | exact HB.out))) : w.heap.size ≤ gb362)); have n5_ := asd ((by rw [hg]; exact Nat.ne_of_lt (blk_lt (g := gb361) (o := .cells #[.bool a0_0, .int .i64 a0_1, .int .i64 a0_2, .int .i64 a0_3, .int .i64 a0_4, .int .i64 a0_5] 56 (0, 0)) (by (with_reducible repeat first | apply bn | apply bd | apply ba); exact BK361.out)) : gb361 ≠ gb362)); have n6_ := asd ((by rw [hg]; exact Nat.ne_of_gt (blk_lt (g := gb361) (o := .cells #[.bool a0_0, .int .i64 a0_1, .int .i64 a0_2, .int .i64 a0_3, .int .i64 a0_4, .int .i64 a0_5] 56 (0, 0)) (by (with_reducible repeat first | apply bn | apply bd | apply ba); exact BK361.out)) : gb362 ≠ gb361)); clear BK361; clear HB; have BK361 := n0_; have HB := n1_; have BK362 := n2_; have GW362 := n3_; have GE362 := n4_; have NB361_362 := n5_; have NB362_361 := n6_; clear n0_ n1_ n2_ n3_ n4_ n5_ n6_; clear hb hbox hg) | ((with_reducible refine gate_dst (N := 5) rfl ?_); refine box_event ?hg (N := 5) ?hd (cs := #[.slice A2_0 l2_0.length c2_0, .slice A2_1 l2_1.length c2_1, .slice A2_2 l2_2.length c2_2, .int .u8 a2_3, .int .u8 a2_4, .int .u8 a2_5]) (t := 61) ?hr ?_; (case hd => rfl); (case hg => rfl); (case hr => first | (go_simp; done) | (go_simp; rfl)); intro gb363 hg w40 hbox hb; have n0_ := asd (blk_below (g := gb361) (o := .cells #[.bool a0_0, .int .i64 a0_1, .int .i64 a0_2, .int .i64 a0_3, .int .i64 a0_4, .int .i64 a0_5] 56 (0, 0)) (by (with_reducible repeat first | apply bn | apply bd | apply ba); exact BK361.out) hb); have n1_ := asd (blk_below (g := gb362) (o := .cells #[.bool a1_0, .int .i64 a1_1, .int .i64 a1_2] 57 (0, 0)) (by (with_reducible repeat first | apply bn | apply bd | apply ba); exact BK362.out) hb); have n2_ := asd (below_step (by repeat (first | (with_reducible first | exact HB.out | apply wa | apply wn | apply wd | refine ws ?_ GE361.out | refine ws ?_ GE362.out) | exact HB.out)) hb); have n3_ := asd (hbox); have n4_ := asd ((by rw [hg]; exact (below_size (by repeat (first | (with_reducible first | exact HB.out | apply wa | apply wn | apply wd | refine ws ?_ GE361.out | refine ws ?_ GE362.out) | exact HB.out))) : w.heap.size ≤ gb363)); have n5_ := asd ((by rw [hg]; exact (below_size (by repeat (first | (with_reducible first | exact HB.out | apply wa | apply wn | apply wd | refine ws ?_ GE361.out | refine ws ?_ GE362.out) | exact HB.out))) : w.heap.size ≤ gb363)); have n6_ := asd ((by rw [hg]; exact Nat.ne_of_lt (blk_lt (g := gb361) (o := .cells #[.bool a0_0, .int .i64 a0_1, .int .i64 a0_2, .int .i64 a0_3, .int .i64 a0_4, .int .i64 a0_5] 56 (0, 0)) (by (with_reducible repeat first | apply bn | apply bd | apply ba); exact BK361.out)) : gb361 ≠ gb363)); have n7_ := asd ((by rw [hg]; exact Nat.ne_of_gt (blk_lt (g := gb361) (o := .cells #[.bool a0_0, .int .i64 a0_1, .int .i64 a0_2, .int .i64 a0_3, .int .i64 a0_4, .int .i64 a0_5] 56 (0, 0)) (by (with_reducible repeat first | apply bn | apply bd | apply ba); exact BK361.out)) : gb363 ≠ gb361)); have n8_ := asd ((by rw [hg]; exact Nat.ne_of_lt (blk_lt (g := gb362) (o := .cells #[.bool a1_0, .int .i64 a1_1, .int .i64 a1_2] 57 (0, 0)) (by (with_reducible repeat first | apply bn | apply bd | apply ba); exact BK362.out)) : gb362 ≠ gb363)); have n9_ := asd ((by rw [hg]; exact Nat.ne_of_gt (blk_lt (g := gb362) (o := .cells #[.bool a1_0, .int .i64 a1_1, .int .i64 a1_2] 57 (0, 0)) (by (with_reducible repeat first | apply bn | apply bd | apply ba); exact BK362.out)) : gb363 ≠ gb362)); clear BK361; clear BK362; clear HB; have BK361 := n0_; have BK362 := n1_; have HB := n2_; have BK363 := n3_; have GW363 := n4_; have GE363 := n5_; have NB361_363 := n6_; have NB363_361 := n7_; have NB362_363 := n8_; have NB363_362 := n9_; clear n0_ n1_ n2_ n3_ n4_ n5_ n6_ n7_ n8_ n9_; clear hb hbox hg; have hnb41 := NB363_361.out; have hnc41 := NB361_363.out; have hnb42 := NB363_362.out; have hnc42 := NB362_363.out; have hcz43_0 : w40.cell? ⟨gb363, 0, none⟩ = some (.slice A2_0 l2_0.length c2_0) := (blk_cell BK363.out 0).trans rfl; have hcz43_1 : w40.cell? ⟨gb363, 1, none⟩ = some (.slice A2_1 l2_1.length c2_1) := (blk_cell BK363.out 1).trans rfl; have hcz43_2 : w40.cell? ⟨gb363, 2, none⟩ = some (.slice A2_2 l2_2.length c2_2) := (blk_cell BK363.out 2).trans rfl; have hcz43_3 : w40.cell? ⟨gb363, 3, none⟩ = some (.int .u8 a2_3) := (blk_cell BK363.out 3).trans rfl; have hcz43_4 : w40.cell? ⟨gb363, 4, none⟩ = some (.int .u8 a2_4) := (blk_cell BK363.out 4).trans rfl; have hcz43_5 : w40.cell? ⟨gb363, 5, none⟩ = some (.int .u8 a2_5) := (blk_cell BK363.out 5).trans rfl; have hfz43_0 := blk_frozen BK363.out 0; have hfz43_1 := blk_frozen BK363.out 1; have hfz43_2 := blk_frozen BK363.out 2; have hfz43_3 := blk_frozen BK363.out 3; have hfz43_4 := blk_frozen BK363.out 4; have hfz43_5 := blk_frozen BK363.out 5) | ((with_reducible refine gate_callee (f := 25) rfl ?_); refine goesL_ (some 8) rfl rfl Try.func25 (by kernel_rfl) rfl #[.agg #[.slice A2_0 l2_0.length c2_0, .slice A2_1 l2_1.length c2_1, .slice A2_2 l2_2.length c2_2, .int .u8 a2_3, .int .u8 a2_4, .int .u8 a2_5]] rfl (by (try simp only [List.map_toArray, List.map_cons, List.map_nil]); first | done | rfl | (simp only [List.length_drop, List.length_take]; rfl)) ?_; (with_reducible refine (parcloselaw03_few.calls _ _ l2_0 _ _ l2_1 _ _ l2_2 a2_3 a2_4 a2_5 false _ ?side1 ?side2 ?side3 ?side4 ?side5 ?side6 A4.out).mono ?_); (case side1 => repeat (first | exact (Kd.C_below HR2_0.out HB.out) | (with_reducible refine Kd.C_alloc ?_ _) | (with_reducible refine Kd.C_drewN ?_ _) | (with_reducible refine Kd.C_drew ?_))); (case side2 => exact HC2_0.out); (case side3 => repeat (first | exact (Kd.C_below HR2_1.out HB.out) | (with_reducible refine Kd.C_alloc ?_ _) | (with_reducible refine Kd.C_drewN ?_ _) | (with_reducible refine Kd.C_drew ?_))); (case side4 => exact HC2_1.out); (case side5 => repeat (first | exact (Kd.C_below HR2_2.out HB.out) | (with_reducible refine Kd.C_alloc ?_ _) | (with_reducible refine Kd.C_drewN ?_ _) | (with_reducible refine Kd.C_drew ?_))); (case side6 => exact HC2_2.out); rintro e w44 ⟨rfl, hb⟩; refine ⟨_, rfl, ?_⟩; have n0_ := asd (blk_below (g := gb361) (o := .cells #[.bool a0_0, .int .i64 a0_1, .int .i64 a0_2, .int .i64 a0_3, .int .i64 a0_4, .int .i64 a0_5] 56 (0, 0)) (by (with_reducible repeat first | apply bn | apply bd | apply ba); exact BK361.out) hb); have n1_ := asd (blk_below (g := gb362) (o := .cells #[.bool a1_0, .int .i64 a1_1, .int .i64 a1_2] 57 (0, 0)) (by (with_reducible repeat first | apply bn | apply bd | apply ba); exact BK362.out) hb); have n2_ := asd (blk_below (g := gb363) (o := .cells #[.slice A2_0 l2_0.length c2_0, .slice A2_1 l2_1.length c2_1, .slice A2_2 l2_2.length c2_2, .int .u8 a2_3, .int .u8 a2_4, .int .u8 a2_5] 61 (0, 0)) (by (with_reducible repeat first | apply bn | apply bd | apply ba); exact BK363.out) hb); have n3_ := asd (below_step (by repeat (first | (with_reducible first | exact HB.out | apply wa | apply wn | apply wd | refine ws ?_ GE361.out | refine ws ?_ GE362.out | refine ws ?_ GE363.out) | exact HB.out)) hb); clear BK361; clear BK362; clear BK363; clear HB; have BK361 := n0_; have BK362 := n1_; have BK363 := n2_; have HB := n3_; clear n0_ n1_ n2_ n3_; (try clear hb); (try clear hb2); (try clear hk); (try clear hi)) | ((with_reducible refine gate_callee (f := 16) rfl ?_); refine goesL_ (some 10) rfl rfl Try.func16 (by kernel_rfl) rfl #[] rfl (by (try simp only [List.map_toArray, List.map_cons, List.map_nil]); first | done | rfl | (simp only [List.length_drop, List.length_take]; rfl)) ?_; (with_reducible refine (parcloselaw03_knows.calls k  t365 _ A37.out).mono ?_); rintro e w45 ⟨rfl, hb⟩; refine ⟨_, rfl, ?_⟩; have n0_ := asd (blk_below (g := gb361) (o := .cells #[.bool a0_0, .int .i64 a0_1, .int .i64 a0_2, .int .i64 a0_3, .int .i64 a0_4, .int .i64 a0_5] 56 (0, 0)) (by (with_reducible repeat first | apply bn | apply bd | apply ba); exact BK361.out) hb); have n1_ := asd (blk_below (g := gb362) (o := .cells #[.bool a1_0, .int .i64 a1_1, .int .i64 a1_2] 57 (0, 0)) (by (with_reducible repeat first | apply bn | apply bd | apply ba); exact BK362.out) hb); have n2_ := asd (blk_below (g := gb363) (o := .cells #[.slice A2_0 l2_0.length c2_0, .slice A2_1 l2_1.length c2_1, .slice A2_2 l2_2.length c2_2, .int .u8 a2_3, .int .u8 a2_4, .int .u8 a2_5] 61 (0, 0)) (by (with_reducible repeat first | apply bn | apply bd | apply ba); exact BK363.out) hb); have n3_ := asd (below_step (by repeat (first | (with_reducible first | exact HB.out | apply wa | apply wn | apply wd | refine ws ?_ GE361.out | refine ws ?_ GE362.out | refine ws ?_ GE363.out) | exact HB.out)) hb); clear BK361; clear BK362; clear BK363; clear HB; have BK361 := n0_; have BK362 := n1_; have BK363 := n2_; have HB := n3_; clear n0_ n1_ n2_ n3_; (try clear hb); (try clear hb2); (try clear hk); (try clear hi)))
  go_ret
  exact ⟨by first | rfl | (simp [*] <;> rfl), by repeat (first | (with_reducible first | exact HB.out | apply wa | apply wn | apply wd | refine ws ?_ GE361.out | refine ws ?_ GE362.out | refine ws ?_ GE363.out) | exact HB.out)⟩
end Go.Proofs.Ytmjhnmdmopmfjaa.Fn
namespace Go.Proofs.Ytmjhnmdmopmfjaa.Fn
open Go.RowKit Go.Proofs.YtmjhnmdmopmfjaaW.PrintWords Go.Proofs.YtmjhnmdmopmfjaaW.PrintLast Go.Proofs.YtmjhnmdmopmfjaaW.PrintMore
attribute [local go_sem] max2_int min2_int max_two min_two max_three min_three max_four min_four
set_option linter.unusedVariables false
set_option linter.unusedSimpArgs false
def parcloselaw03_ConfRights.Pure : Prop := ∀ (a0_0 : Bool) (a0_1 : Int) (a0_2 : Int) (a0_3 : Int) (a0_4 : Int) (a0_5 : Int) (a1_0 : Bool) (a1_1 : Int) (a1_2 : Int) (l2_0 : List (S56)) (l2_1 : List (S57)) (l2_2 : List Int) (a2_3 : Int) (a2_4 : Int) (a2_5 : Int), q56 (⟨a0_0, a0_1, a0_2, a0_3, a0_4, a0_5⟩ : S56) → q57 (⟨a1_0, a1_1, a1_2⟩ : S57) → q61 (⟨l2_0, l2_1, l2_2, (⟨a2_3, a2_4, a2_5⟩ : S47)⟩ : S61) → ∃ k, parcloselaw03_ConfRights.f k a0_0 a0_1 a0_2 a0_3 a0_4 a0_5 a1_0 a1_1 a1_2 l2_0 l2_1 l2_2 a2_3 a2_4 a2_5 = some true
end Go.Proofs.Ytmjhnmdmopmfjaa.Fn
namespace Go.Proofs.Ytmjhnmdmopmfjaa.Fn
open Go.RowKit Go.Proofs.YtmjhnmdmopmfjaaW.PrintWords Go.Proofs.YtmjhnmdmopmfjaaW.PrintLast Go.Proofs.YtmjhnmdmopmfjaaW.PrintMore
set_option linter.unusedVariables false
set_option linter.unusedSimpArgs false
theorem less_f (a b : Int) : cmp_Less_int.f a b = some (decide (a < b)) := by
 unfold cmp_Less_int.f cmp_isNaN_int.f
 simp
def srt (l : List Int) : Nat → Bool
 | 0 => true
 | i + 1 => if l.getD (i + 1) 0 < l.getD i 0 then false else srt l i
theorem is_l0 (l : List Int) (hb : l.length < 1000) : ∀ i : Nat, i < l.length → Ev (fun k => slices_IsSorted_int_int.l0 k l (i : Int)) (srt l i) := by
 intro i
 induction i with
 | zero =>
  intro h
  refine Ev.step (f := fun _ => some true) (fun k => by simp only [slices_IsSorted_int_int.l0]; rw [if_neg (by omega)]) ?_
  exact Ev.now _
 | succ i ih =>
  intro h
  have hw : wrap64 (((i + 1 : Nat) : Int) - 1) = (i : Int) := by unfold wrap64; omega
  refine Ev.step (f := fun k => if rd l ((i + 1 : Nat) : Int) < rd l (i : Int) then some false else slices_IsSorted_int_int.l0 k l (i : Int)) (fun k => by
   simp only [slices_IsSorted_int_int.l0]
   rw [if_pos (by omega), if_pos (by omega), if_pos (by omega), hw, if_pos (by omega), if_pos (by omega), less_f]
   by_cases c : rd l ((i + 1 : Nat) : Int) < rd l (i : Int) <;> simp [c]) ?_
  have e1 : rd l ((i + 1 : Nat) : Int) = l.getD (i + 1) 0 := by first | rfl | simp [rd]
  have e2 : rd l (i : Int) = l.getD i 0 := by first | rfl | simp [rd]
  rw [e1, e2]
  unfold srt
  by_cases c : l.getD (i + 1) 0 < l.getD i 0
  ·simp only [c, if_true]; exact Ev.now _
  ·simp only [c, if_false]; exact ih (by omega)
theorem rise_ev (l : List Int) (hb : l.length < 1000) (h0 : 0 < l.length) : Ev (fun k => conf_rise.f k l) (srt l (l.length - 1)) := by
 refine Ev.congr (fun k => by unfold conf_rise.f slices_IsSorted_int_int.f; rw [show wrap64 ((l.length : Int) - 1) = ((l.length - 1 : Nat) : Int) by unfold wrap64; omega]) ?_
 exact Ev.bind (f := fun _ t => some t) (is_l0 l hb _ (by omega)) (Ev.now _)
theorem rtB_iff (x : S56) : rtB x = true ↔ (1 ≤ x.f4 ∧ x.f4 ≤ x.f3 ∧ x.f3 ≤ x.f2 ∧ x.f2 ≤ x.f1 ∧ x.f1 ≤ 1000) ∧ (x.f4 ≤ x.f5 ∧ x.f5 ≤ x.f2) ∧ (x.f0 = true ∨ x.f3 = x.f2 ∧ x.f5 = x.f4) := by
 obtain ⟨a, b, c, d, e, f⟩ := x
 have h := rt_f ⟨a, b, c, d, e, f⟩
 simp only at h ⊢
 unfold parcloseref03_RightTask.f at h
 repeat' split at h
 all_goals (have h := (Option.some.inj h).symm; rw [h]; simp; first | omega | (cases a <;> simp_all <;> omega))
theorem rsB_iff (x : S57) : rsB x = true ↔ (1 ≤ x.f1 ∧ x.f1 ≤ x.f2 ∧ x.f2 ≤ 1000) := by
 obtain ⟨a, b, c⟩ := x
 have h := rs_f ⟨a, b, c⟩
 simp only at h ⊢
 unfold parcloseref03_RightServer.f at h
 repeat' split at h
 all_goals (have h := (Option.some.inj h).symm; rw [h]; simp; omega)
theorem bool_eq {a b : Bool} {P : Prop} (h : a = true ↔ P) (h2 : b = true ↔ P) : a = b := by
 cases a <;> cases b <;> simp_all
theorem srt6 (a b c d e f : Int) : srt [a, b, c, d, e, f] 5 = true ↔ a ≤ b ∧ b ≤ c ∧ c ≤ d ∧ d ≤ e ∧ e ≤ f := by
 simp [srt]; omega
theorem srt4 (a b c d : Int) : srt [a, b, c, d] 3 = true ↔ a ≤ b ∧ b ≤ c ∧ c ≤ d := by
 simp [srt]; omega
theorem srt3 (a b c : Int) : srt [a, b, c] 2 = true ↔ a ≤ b ∧ b ≤ c := by
 simp [srt]; omega
theorem task_ev (x : S56) : Ev (fun k => conf_Task_Right.f k x.f0 x.f1 x.f2 x.f3 x.f4 x.f5) (rtB x) := by
 refine Ev.congr (fun k => by unfold conf_Task_Right.f; rfl) ?_
 refine Ev.bind (rise_ev _ (by simp) (by simp)) ?_
 have h6 := srt6 1 x.f4 x.f3 x.f2 x.f1 1000
 have h3 := srt3 x.f4 x.f5 x.f2
 have hr := rtB_iff x
 show Ev (fun k => if srt [1, x.f4, x.f3, x.f2, x.f1, 1000] 5 = true then _ else _) _
 cases c6 : srt [1, x.f4, x.f3, x.f2, x.f1, 1000] 5 with
 | false =>
  rw [c6] at h6
  have : rtB x = false := by cases h : rtB x with
   | false => rfl
   | true => have := (hr.1 h).1; exact absurd (h6.2 this) (by simp)
  rw [this]
  exact Ev.some_ (fun k => by simp)
 | true =>
  refine Ev.congr (fun k => by rw [if_pos rfl]) ?_
  refine Ev.bind (rise_ev _ (by simp) (by simp)) ?_
  show Ev (fun k => if srt [x.f4, x.f5, x.f2] 2 = true then _ else _) _
  cases c3 : srt [x.f4, x.f5, x.f2] 2 with
  | false =>
   rw [c3] at h3
   have : rtB x = false := by cases h : rtB x with
    | false => rfl
    | true => have := (hr.1 h).2.1; exact absurd (h3.2 this) (by simp)
   rw [this]
   exact Ev.some_ (fun k => by simp)
  | true =>
   refine Ev.some_ (fun k => ?_)
   rw [if_pos rfl]
   have a6 := h6.1 c6
   have a3 := h3.1 c3
   cases hb : x.f0 with
   | true =>
    rw [if_pos rfl]
    rw [(hr.2 ⟨a6, a3, Or.inl hb⟩ : rtB x = true)]
   | false =>
    rw [if_neg (by decide)]
    by_cases c : x.f3 = x.f2
    ·rw [if_pos c]
     congr 1
     refine bool_eq (P := x.f5 = x.f4) (by simp) (hr.trans ⟨fun h => ?_, fun h => ⟨a6, a3, Or.inr ⟨c, h⟩⟩⟩)
     rcases h.2.2 with h | h
     ·simp [hb] at h
     ·exact h.2
    ·rw [if_neg c]
     congr 1
     symm
     cases h : rtB x with
     | false => rfl
     | true =>
      rcases (hr.1 h).2.2 with h | h
      ·simp [hb] at h
      ·exact absurd h.1 c
theorem server_ev (x : S57) : Ev (fun k => conf_Server_Right.f k x.f0 x.f1 x.f2) (rsB x) := by
 refine Ev.congr (fun k => by unfold conf_Server_Right.f; rfl) ?_
 refine Ev.bind (f := fun _ t => some t) (rise_ev _ (by simp) (by simp)) ?_
 rw [← show srt [1, x.f1, x.f2, 1000] 3 = rsB x from bool_eq (srt4 1 x.f1 x.f2 1000) (rsB_iff x)]
 exact Ev.now _
theorem t145 (l : List S56) (hl : l.length < 1000) : ∀ d i, l.length - i = d → i ≤ l.length → ∃ r : Int, Ev (fun k => conf_Task_145.l0 k (l.map cT) ((l.map cT).length : Int) (i : Int)) r ∧ decide (r ≥ 0) = !((l.drop i).all rtB) := by
 intro d
 induction d with
 | zero =>
  intro i hd hi
  obtain rfl : i = l.length := by omega
  refine ⟨-1, Ev.step (f := fun _ => some (-1)) (fun k => by simp only [conf_Task_145.l0]; rw [if_neg (by simp)]) (Ev.now _), by rw [List.drop_length]; rfl⟩
 | succ d ih =>
  intro i hd hi
  have hlt : i < l.length := by omega
  obtain ⟨r, hr, hr2⟩ := ih (i + 1) (by omega) (by omega)
  have hrd : rd_T51 (l.map cT) (i : Int) = cT l[i] := by
   have := getD_nat (l.map cT) i z51 (by simpa using hlt)
   simpa [rd_T51] using this
  have hst : ∀ k, conf_Task_145.l0 (k + 1) (l.map cT) ((l.map cT).length : Int) (i : Int) = (conf_Task_Right.f k l[i].f0 l[i].f1 l[i].f2 l[i].f3 l[i].f4 l[i].f5).bind fun t => if (!t) = true then some (i : Int) else conf_Task_145.l0 k (l.map cT) ((l.map cT).length : Int) ((i + 1 : Nat) : Int) := by
   intro k
   simp only [conf_Task_145.l0]
   rw [if_pos (by simpa using hlt), if_pos (by omega), if_pos (by simpa using hlt), hrd, wrap_nat (by omega)]
   unfold conf_Task_1.f
   rw [Option.bind_assoc]
   rfl
  cases hb : rtB l[i] with
  | false =>
   refine ⟨i, Ev.step hst ?_, ?_⟩
   ·have := task_ev l[i]
    rw [hb] at this
    refine Ev.bind this ?_
    exact Ev.some_ (fun k => by simp)
   ·rw [List.drop_eq_getElem_cons hlt, List.all_cons, hb]; simp
  | true =>
   refine ⟨r, Ev.step hst ?_, ?_⟩
   ·have := task_ev l[i]
    rw [hb] at this
    refine Ev.bind this ?_
    exact Ev.congr (fun k => by rw [if_neg (by decide)]) hr
   ·rw [List.drop_eq_getElem_cons hlt, List.all_cons, hb, hr2]; simp
theorem s146 (l : List S57) (hl : l.length < 1000) : ∀ d i, l.length - i = d → i ≤ l.length → ∃ r : Int, Ev (fun k => conf_Server_146.l0 k (l.map cS) ((l.map cS).length : Int) (i : Int)) r ∧ decide (r ≥ 0) = !((l.drop i).all rsB) := by
 intro d
 induction d with
 | zero =>
  intro i hd hi
  obtain rfl : i = l.length := by omega
  refine ⟨-1, Ev.step (f := fun _ => some (-1)) (fun k => by simp only [conf_Server_146.l0]; rw [if_neg (by simp)]) (Ev.now _), by rw [List.drop_length]; rfl⟩
 | succ d ih =>
  intro i hd hi
  have hlt : i < l.length := by omega
  obtain ⟨r, hr, hr2⟩ := ih (i + 1) (by omega) (by omega)
  have hrd : rd_T53 (l.map cS) (i : Int) = cS l[i] := by
   have := getD_nat (l.map cS) i z53 (by simpa using hlt)
   simpa [rd_T53] using this
  have hst : ∀ k, conf_Server_146.l0 (k + 1) (l.map cS) ((l.map cS).length : Int) (i : Int) = (conf_Server_Right.f k l[i].f0 l[i].f1 l[i].f2).bind fun t => if (!t) = true then some (i : Int) else conf_Server_146.l0 k (l.map cS) ((l.map cS).length : Int) ((i + 1 : Nat) : Int) := by
   intro k
   simp only [conf_Server_146.l0]
   rw [if_pos (by simpa using hlt), if_pos (by omega), if_pos (by simpa using hlt), hrd, wrap_nat (by omega)]
   unfold conf_Server_1.f
   rw [Option.bind_assoc]
   rfl
  cases hb : rsB l[i] with
  | false =>
   refine ⟨i, Ev.step hst ?_, ?_⟩
   ·have := server_ev l[i]
    rw [hb] at this
    refine Ev.bind this ?_
    exact Ev.some_ (fun k => by simp)
   ·rw [List.drop_eq_getElem_cons hlt, List.all_cons, hb]; simp
  | true =>
   refine ⟨r, Ev.step hst ?_, ?_⟩
   ·have := server_ev l[i]
    rw [hb] at this
    refine Ev.bind this ?_
    exact Ev.congr (fun k => by rw [if_neg (by decide)]) hr
   ·rw [List.drop_eq_getElem_cons hlt, List.all_cons, hb, hr2]; simp
theorem t58 (l : List S56) (hl : l.length < 1000) (n : Nat) : Ev (fun k => conf_Task_58.f k (l.map cT) (n : Int)) (decide (l.length ≤ n) && l.all rtB) := by
 by_cases c : l.length ≤ n
 ·refine Ev.congr (fun k => by unfold conf_Task_58.f conf_Task_102.f conf_Task_145.f; rw [if_pos (by simpa using c), Option.bind_assoc]) ?_
  obtain ⟨r, hr, hr2⟩ := t145 l hl _ 0 rfl (by omega)
  refine Ev.bind hr ?_
  refine Ev.some_ (fun k => ?_)
  simp only [Option.bind_some, hr2, c]
  simp
 ·refine Ev.some_ (fun k => ?_)
  unfold conf_Task_58.f
  rw [if_neg (by simpa using c)]
  simp [c]
theorem s59 (l : List S57) (hl : l.length < 1000) (n : Nat) : Ev (fun k => conf_Server_59.f k (l.map cS) (n : Int)) (decide (l.length ≤ n) && l.all rsB) := by
 by_cases c : l.length ≤ n
 ·refine Ev.congr (fun k => by unfold conf_Server_59.f conf_Server_104.f conf_Server_146.f; rw [if_pos (by simpa using c), Option.bind_assoc]) ?_
  obtain ⟨r, hr, hr2⟩ := s146 l hl _ 0 rfl (by omega)
  refine Ev.bind hr ?_
  refine Ev.some_ (fun k => ?_)
  simp only [Option.bind_some, hr2, c]
  simp
 ·refine Ev.some_ (fun k => ?_)
  unfold conf_Server_59.f
  rw [if_neg (by simpa using c)]
  simp [c]
theorem max_ev (a b c : Int) : Ev (fun k => slices_Max_uint8_uint8.f k [a, b, c]) (mx (mx a b) c) := by
 refine Ev.of (fun k => slices_Max_uint8_uint8.mono _ _) (k := 4) ?_
 unfold slices_Max_uint8_uint8.f
 simp [slices_Max_uint8_uint8.l0, rd, wrap64]
theorem rights_ev (p : S61) (h : fewP p) : ∃ r, Ev (fun k => conf_Part_Rights.f k (p.f0.map cT) (p.f1.map cS) p.f2 p.f3.f0 p.f3.f1 p.f3.f2) r ∧ parcloseref03_Rights.f p.f0 p.f1 p.f2 p.f3.f0 p.f3.f1 p.f3.f2 = some r := by
 obtain ⟨h0, h1, h2⟩ := h
 unfold parcloseref03_Rights.f
 rw [if_pos (by omega)]
 refine ⟨_, ?_, rfl⟩
 refine Ev.congr (fun k => by unfold conf_Part_Rights.f; rfl) ?_
 refine Ev.bind (t58 p.f0 (by omega) 6) ?_
 by_cases c : p.f0.length ≤ 6 ∧ p.f0.all rtB = true
 ·refine Ev.congr (fun k => by rw [if_pos (by simp only [c]; rfl)]) ?_
  rw [if_neg (by omega), if_neg (by rw [c.2]; decide)]
  refine Ev.bind (s59 p.f1 (by omega) 3) ?_
  by_cases d : p.f1.length ≤ 3 ∧ p.f1.all rsB = true
  ·refine Ev.congr (fun k => by rw [if_pos (by simp only [d]; rfl)]) ?_
   rw [if_neg (by omega), if_neg (by rw [d.2]; decide)]
   refine Ev.bind (max_ev p.f3.f0 p.f3.f1 p.f3.f2) ?_
   refine Ev.some_ (fun k => ?_)
   unfold mx
   congr 1
   repeat' split
   all_goals omega
  ·have e : (decide (p.f1.length ≤ 3) && p.f1.all rsB) = false := by
    cases h : (decide (p.f1.length ≤ 3) && p.f1.all rsB) with
    | false => rfl
    | true => exact absurd (by simpa using h) d
   refine Ev.some_ (fun k => ?_)
   rw [e]
   simp only [Bool.false_eq_true, if_false]
   by_cases d1 : 3 < p.f1.length
   ·rw [if_pos d1]
   ·rw [if_neg d1, if_pos (by
     cases h : p.f1.all rsB with
     | false => rfl
     | true => exact absurd ⟨by omega, h⟩ d)]
 ·have e : (decide (p.f0.length ≤ 6) && p.f0.all rtB) = false := by
   cases h : (decide (p.f0.length ≤ 6) && p.f0.all rtB) with
   | false => rfl
   | true => exact absurd (by simpa using h) c
  refine Ev.some_ (fun k => ?_)
  rw [e]
  simp only [Bool.false_eq_true, if_false]
  by_cases d1 : 6 < p.f0.length
  ·rw [if_pos d1]
  ·rw [if_neg d1, if_pos (by
    cases h : p.f0.all rtB with
    | false => rfl
    | true => exact absurd ⟨by omega, h⟩ c)]
theorem P_ConfRights : parcloselaw03_ConfRights.Pure := by
 intro a0 a1 a2 a3 a4 a5 b0 b1 b2 t0 t1 t2 x y z _ _ _
 suffices h : Ev (fun k => parcloselaw03_ConfRights.f k a0 a1 a2 a3 a4 a5 b0 b1 b2 t0 t1 t2 x y z) true from h.rounds
 have hfew := few_ev ⟨t0, t1, t2, ⟨x, y, z⟩⟩
 simp only at hfew
 refine Ev.congr (fun k => by unfold parcloselaw03_ConfRights.f; rw [hfew, Option.bind_some]) ?_
 have hk : Ev (fun k => (parcloselaw03_knows.f k).bind fun t => some t) true := Ev.bind (f := fun _ t => some t) knows3 (Ev.now _)
 by_cases c : t0.length ≤ 20 ∧ t1.length ≤ 20 ∧ t2.length ≤ 20
 ·refine Ev.congr (fun k => by rw [if_pos (by simpa using c)]) ?_
  refine Ev.bind (task_ev ⟨a0, a1, a2, a3, a4, a5⟩) ?_
  have h1 := rt_f ⟨a0, a1, a2, a3, a4, a5⟩
  simp only at h1
  refine Ev.congr (fun k => by rw [h1, Option.bind_some, if_pos (by simp)]) ?_
  refine Ev.bind (server_ev ⟨b0, b1, b2⟩) ?_
  have h2 := rs_f ⟨b0, b1, b2⟩
  simp only at h2
  refine Ev.congr (fun k => by rw [h2, Option.bind_some, if_pos (by simp)]) ?_
  refine Ev.bind (part_ev ⟨t0, t1, t2, ⟨x, y, z⟩⟩ c) ?_
  obtain ⟨r, hr, hr2⟩ := rights_ev ⟨t0, t1, t2, ⟨x, y, z⟩⟩ c
  refine Ev.bind hr ?_
  simp only at hr2
  refine Ev.congr (fun k => by unfold parcloselaw03_num.f; rw [Option.bind_some, hr2, Option.bind_some, if_pos rfl]) ?_
  exact hk
 ·refine Ev.congr (fun k => by rw [if_neg (by simpa using c)]) ?_
  exact hk
end Go.Proofs.Ytmjhnmdmopmfjaa.Fn
