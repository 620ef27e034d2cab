/- Part of the proof of ConfSames: see the last text. (Words laid by the print, as far as they are named here; walks written by a program of this project; plain laws.) -/
import Derived.Test.YtmjhnmdmopmfjaaConfSamesZ3
namespace Go.Proofs.Ytmjhnmdmopmfjaa.Fn
open Go.RowKit Go.Proofs.YtmjhnmdmopmfjaaW.PrintWords Go.Proofs.YtmjhnmdmopmfjaaW.PrintLast Go.Proofs.YtmjhnmdmopmfjaaW.PrintMore
attribute [local go_sem] max2_int min2_int max_two min_two max_three min_three max_four min_four
set_option linter.unusedVariables false
set_option linter.unusedSimpArgs false
def conf_Part_62.l0 : Nat → List (S49) → List (S49) → Int → Int → Option (Bool)
 | 0, _, _, _, _ => none
 | k + 1, x1, x15, x16, x17 => if x17 < x16 then (if 0 ≤ x17 then (if x17 < (x15.length : Int) then (if x17 < (x1.length : Int) then ((conf_same.f k ((rd_T49 x15 x17).f0) ((rd_T49 x15 x17).f1) ((rd_T49 x15 x17).f2) ((rd_T49 x15 x17).f3.f0) ((rd_T49 x15 x17).f3.f1) ((rd_T49 x15 x17).f3.f2) ((rd_T49 x1 x17).f0) ((rd_T49 x1 x17).f1) ((rd_T49 x1 x17).f2) ((rd_T49 x1 x17).f3.f0) ((rd_T49 x1 x17).f3.f1) ((rd_T49 x1 x17).f3.f2)).bind fun t398 => (if t398 = true then (conf_Part_62.l0 k x1 x15 x16 (wrap64 (x17 + 1))) else (some false))) else (none)) else (none)) else (none)) else (some true)
def conf_Part_62.f (k : Nat) (l0 : List (S49)) (l1 : List (S49))  : Option (Bool) := if (l0.length : Int) = (l1.length : Int) then (conf_Part_62.l0 k l1 l0 (l0.length : Int) 0) else (some false)
set_option maxHeartbeats 8000000 in
set_option maxRecDepth 100000 in
theorem conf_Part_62.calls (k : Nat) (A0 : Option Addr) (c0 : Nat) (l0 : List (S49)) (A1 : Option Addr) (c1 : Nat) (l1 : List (S49))  (r : Bool) (w : World) (hr0 : Kd.C k49 w A0 l0.length l0) (hc0 : l0.length ≤ c0) (hr1 : Kd.C k49 w A1 l1.length l1) (hc1 : l1.length ≤ c1) (h : conf_Part_62.f k l0 l1 = some r) :
  Calls Try.prog 62 #[.slice A0 l0.length c0, .slice A1 l1.length c1, .func (.func 63) #[] #[]] w fun e w' => e = .returned (.bool r) ∧ Below w.heap.size w w' := by
 have hu49 := Try.underlying49
 have HR0 := asd hr0
 have HC0 := asd hc0
 clear hr0 hc0
 have HR1 := asd hr1
 have HC1 := asd hc1
 clear hr1 hc1
 have HB := asd (Below.refl w.heap.size w)
 have H : (if (l0.length : Int) = (l1.length : Int) then (conf_Part_62.l0 k l1 l0 (l0.length : Int) 0) else (some false)) = some r := h
 clear h
 by_cases c4 : (l0.length : Int) = (l1.length : Int)
 ·rw [if_pos c4] at H
  have c4b0 : ((l0.length : Int) == (l1.length : Int)) = true := beq_iff_eq.mpr c4
  have c4b1 : ((l0.length : Int) != (l1.length : Int)) = false := bne_eq_false_iff_eq.mpr c4
  have c4b2 : (l0.length == l1.length) = true := by first | simpa using c4 | (simp at c4 ⊢; omega)
  clear c4
  have H' := asd H
  clear H
  go_enter Try.func62, Try.ntmps62
  go_wp2
  go_loopg [17] k (fun kq v17 w' => ∃ (x17_1 : Int), v17 = .int .i64 x17_1 ∧ Aside0 (conf_Part_62.l0 kq l1 l0 (l0.length : Int) x17_1 = some r) ∧ Aside0 (kq ≤ k) ∧ Aside0 (Below w.heap.size w w'))
  case atStart => exact ⟨(0), (by first | rfl | (simp; done) | (simp [*]; done)), H', ⟨Nat.le_refl _⟩, ⟨by repeat (first | (with_reducible first | exact HB.out | apply wa | apply wn | apply wd) | exact HB.out)⟩⟩
  case round =>
   clear H'
   try clear c1
   try clear p2
   try clear c4
   try clear c4b0
   try clear c4b1
   try clear c4b2
   obtain ⟨x17_1, rfl, HA, HK1, HB⟩ := hrel
   cases gk with
   | zero => exact absurd HA.out (by simp [conf_Part_62.l0])
   | succ k1 =>
    have H := HA.out
    clear HA
    simp only [conf_Part_62.l0] at H
    by_cases c5 : x17_1 < (l0.length : Int)
    ·rw [if_pos c5] at H
     have c5b0 : decide (x17_1 < (l0.length : Int)) = true := decide_eq_true c5
     clear c5
     by_cases c6 : 0 ≤ x17_1
     ·rw [if_pos c6] at H
      have c6b0 : decide (0 ≤ x17_1) = true := decide_eq_true c6
      clear c6
      by_cases c7 : x17_1 < (l0.length : Int)
      ·rw [if_pos c7] at H
       have c7b0 : decide (x17_1 < (l0.length : Int)) = true := decide_eq_true c7
       clear c7
       by_cases c8 : x17_1 < (l1.length : Int)
       ·rw [if_pos c8] at H
        have c8b0 : decide (x17_1 < (l1.length : Int)) = true := decide_eq_true c8
        clear c8
        replace H := Option.bind_eq_some_iff.mp H
        obtain ⟨t398, A90, H⟩ := H
        replace H : (if t398 = true then (conf_Part_62.l0 k1 l1 l0 (l0.length : Int) (wrap64 (x17_1 + 1))) else (some false)) = some r := H
        have A9 := asd A90
        clear A90
        by_cases c10 : t398 = true
        ·subst c10
         have H1 : (conf_Part_62.l0 k1 l1 l0 (l0.length : Int) (wrap64 (x17_1 + 1))) = some r := by rw [if_pos rfl] at H; exact H
         clear H
         have H := H1
         clear H1
         have H' := asd H
         clear H
         have p394 : 0 ≤ (x17_1 : Int) := of_decide_eq_true (by assumption)
         have q394 : x17_1 < (l0.length : Int) := of_decide_eq_true (by assumption)
         obtain ⟨ad394, A394_0, c394_0, A394_1, c394_1, A394_2, c394_2, e394, hx394_0, hx394_1, hx394_2, hx394_3, hx394_4, hx394_5, hl394_0, hi394_0, hl394_1, hi394_1, hl394_2, hi394_2⟩ := at_T49 HR0.out x17_1 p394 q394
         cases e394
         replace hx394_0 := (HB.out.cell (World.block_lt_of_cell? w _ hx394_0)).trans hx394_0
         replace hx394_1 := (HB.out.cell (World.block_lt_of_cell? w _ hx394_1)).trans hx394_1
         replace hx394_2 := (HB.out.cell (World.block_lt_of_cell? w _ hx394_2)).trans hx394_2
         replace hx394_3 := (HB.out.cell (World.block_lt_of_cell? w _ hx394_3)).trans hx394_3
         replace hx394_4 := (HB.out.cell (World.block_lt_of_cell? w _ hx394_4)).trans hx394_4
         replace hx394_5 := (HB.out.cell (World.block_lt_of_cell? w _ hx394_5)).trans hx394_5
         have HR394_0 := asd hi394_0
         have HC394_0 := asd hl394_0
         clear hi394_0 hl394_0
         have HR394_1 := asd hi394_1
         have HC394_1 := asd hl394_1
         clear hi394_1 hl394_1
         have HR394_2 := asd hi394_2
         have HC394_2 := asd hl394_2
         clear hi394_2 hl394_2
         replace p394 := eq_true p394
         replace q394 := eq_true q394
         go_wp2_with (first | ((with_reducible refine gate_dst (N := 8) rfl ?_); refine box_event ?hg (N := 8) ?hd (cs := #[.slice none 0 0, .slice none 0 0, .slice none 0 0, .int .u8 0, .int .u8 0, .int .u8 0]) (t := 49) ?hr ?_; (case hd => rfl); (case hg => rfl); (case hr => first | (go_simp; done) | (go_simp; rfl)); intro gb395 hg w11 hbox hb; have n0_ := asd (below_step (by repeat (first | (with_reducible first | exact HB.out | apply wa | apply wn | apply wd) | exact HB.out)) hb); have n1_ := asd (hbox); have n2_ := asd ((by rw [hg]; exact (below_size (by repeat (first | (with_reducible first | exact HB.out | apply wa | apply wn | apply wd) | exact HB.out))) : w.heap.size ≤ gb395)); have n3_ := asd ((by rw [hg]; exact (below_size (by repeat (first | (with_reducible first | exact HB.out | apply wa | apply wn | apply wd) | exact HB.out))) : w.heap.size ≤ gb395)); clear HB; have HB := n0_; have BK395 := n1_; have GW395 := n2_; have GE395 := n3_; clear n0_ n1_ n2_ n3_; clear hb hbox hg; have hcz12_0 : w11.cell? ⟨gb395, 0, none⟩ = some (.slice none 0 0) := (blk_cell BK395.out 0).trans rfl; have hcz12_1 : w11.cell? ⟨gb395, 1, none⟩ = some (.slice none 0 0) := (blk_cell BK395.out 1).trans rfl; have hcz12_2 : w11.cell? ⟨gb395, 2, none⟩ = some (.slice none 0 0) := (blk_cell BK395.out 2).trans rfl; have hcz12_3 : w11.cell? ⟨gb395, 3, none⟩ = some (.int .u8 0) := (blk_cell BK395.out 3).trans rfl; have hcz12_4 : w11.cell? ⟨gb395, 4, none⟩ = some (.int .u8 0) := (blk_cell BK395.out 4).trans rfl; have hcz12_5 : w11.cell? ⟨gb395, 5, none⟩ = some (.int .u8 0) := (blk_cell BK395.out 5).trans rfl; have hfz12_0 := blk_frozen BK395.out 0; have hfz12_1 := blk_frozen BK395.out 1; have hfz12_2 := blk_frozen BK395.out 2; have hfz12_3 := blk_frozen BK395.out 3; have hfz12_4 := blk_frozen BK395.out 4; have hfz12_5 := blk_frozen BK395.out 5; have p396 : 0 ≤ (x17_1 : Int) := of_decide_eq_true (by assumption); have q396 : x17_1 < (l1.length : Int) := of_decide_eq_true (by assumption); obtain ⟨ad396, A396_0, c396_0, A396_1, c396_1, A396_2, c396_2, e396, hx396_0, hx396_1, hx396_2, hx396_3, hx396_4, hx396_5, hl396_0, hi396_0, hl396_1, hi396_1, hl396_2, hi396_2⟩ := at_T49 HR1.out x17_1 p396 q396; cases e396; have hn396_0 : ad396.block ≠ gb395 := Nat.ne_of_lt (Nat.lt_of_lt_of_le (by have := World.block_lt_of_cell? _ _ hx396_0; first | rwa [add_block] at this | exact this) GW395.out); have hn396_1 : ad396.block ≠ gb395 := Nat.ne_of_lt (Nat.lt_of_lt_of_le (by have := World.block_lt_of_cell? _ _ hx396_0; first | rwa [add_block] at this | exact this) GW395.out); have hn396_2 : ad396.block ≠ gb395 := Nat.ne_of_lt (Nat.lt_of_lt_of_le (by have := World.block_lt_of_cell? _ _ hx396_0; first | rwa [add_block] at this | exact this) GW395.out); have hn396_3 : ad396.block ≠ gb395 := Nat.ne_of_lt (Nat.lt_of_lt_of_le (by have := World.block_lt_of_cell? _ _ hx396_0; first | rwa [add_block] at this | exact this) GW395.out); have hn396_4 : ad396.block ≠ gb395 := Nat.ne_of_lt (Nat.lt_of_lt_of_le (by have := World.block_lt_of_cell? _ _ hx396_0; first | rwa [add_block] at this | exact this) GW395.out); have hn396_5 : ad396.block ≠ gb395 := Nat.ne_of_lt (Nat.lt_of_lt_of_le (by have := World.block_lt_of_cell? _ _ hx396_0; first | rwa [add_block] at this | exact this) GW395.out); replace hx396_0 := (HB.out.cell (World.block_lt_of_cell? w _ hx396_0)).trans hx396_0; replace hx396_1 := (HB.out.cell (World.block_lt_of_cell? w _ hx396_1)).trans hx396_1; replace hx396_2 := (HB.out.cell (World.block_lt_of_cell? w _ hx396_2)).trans hx396_2; replace hx396_3 := (HB.out.cell (World.block_lt_of_cell? w _ hx396_3)).trans hx396_3; replace hx396_4 := (HB.out.cell (World.block_lt_of_cell? w _ hx396_4)).trans hx396_4; replace hx396_5 := (HB.out.cell (World.block_lt_of_cell? w _ hx396_5)).trans hx396_5; have HR396_0 := asd hi396_0; have HC396_0 := asd hl396_0; clear hi396_0 hl396_0; have HR396_1 := asd hi396_1; have HC396_1 := asd hl396_1; clear hi396_1 hl396_1; have HR396_2 := asd hi396_2; have HC396_2 := asd hl396_2; clear hi396_2 hl396_2; replace hx396_0 := (cell_far (p := ⟨gb395, 0, none⟩) (by first | (rw [add_block]; exact hn396_0) | (show (Addr.add _ _).block ≠ _; rw [add_block]; exact hn396_0) | exact hn396_0) (.slice A394_0 ((rd_T49 l0 x17_1).f0).length c394_0)).trans hx396_0; replace hx396_1 := (cell_far (p := ⟨gb395, 0, none⟩) (by first | (rw [add_block]; exact hn396_0) | (show (Addr.add _ _).block ≠ _; rw [add_block]; exact hn396_0) | exact hn396_0) (.slice A394_0 ((rd_T49 l0 x17_1).f0).length c394_0)).trans hx396_1; replace hx396_2 := (cell_far (p := ⟨gb395, 0, none⟩) (by first | (rw [add_block]; exact hn396_0) | (show (Addr.add _ _).block ≠ _; rw [add_block]; exact hn396_0) | exact hn396_0) (.slice A394_0 ((rd_T49 l0 x17_1).f0).length c394_0)).trans hx396_2; replace hx396_3 := (cell_far (p := ⟨gb395, 0, none⟩) (by first | (rw [add_block]; exact hn396_0) | (show (Addr.add _ _).block ≠ _; rw [add_block]; exact hn396_0) | exact hn396_0) (.slice A394_0 ((rd_T49 l0 x17_1).f0).length c394_0)).trans hx396_3; replace hx396_4 := (cell_far (p := ⟨gb395, 0, none⟩) (by first | (rw [add_block]; exact hn396_0) | (show (Addr.add _ _).block ≠ _; rw [add_block]; exact hn396_0) | exact hn396_0) (.slice A394_0 ((rd_T49 l0 x17_1).f0).length c394_0)).trans hx396_4; replace hx396_5 := (cell_far (p := ⟨gb395, 0, none⟩) (by first | (rw [add_block]; exact hn396_0) | (show (Addr.add _ _).block ≠ _; rw [add_block]; exact hn396_0) | exact hn396_0) (.slice A394_0 ((rd_T49 l0 x17_1).f0).length c394_0)).trans hx396_5; replace hx396_0 := (cell_far (p := ⟨gb395, 1, none⟩) (by first | (rw [add_block]; exact hn396_1) | (show (Addr.add _ _).block ≠ _; rw [add_block]; exact hn396_1) | exact hn396_1) (.slice A394_1 ((rd_T49 l0 x17_1).f1).length c394_1)).trans hx396_0; replace hx396_1 := (cell_far (p := ⟨gb395, 1, none⟩) (by first | (rw [add_block]; exact hn396_1) | (show (Addr.add _ _).block ≠ _; rw [add_block]; exact hn396_1) | exact hn396_1) (.slice A394_1 ((rd_T49 l0 x17_1).f1).length c394_1)).trans hx396_1; replace hx396_2 := (cell_far (p := ⟨gb395, 1, none⟩) (by first | (rw [add_block]; exact hn396_1) | (show (Addr.add _ _).block ≠ _; rw [add_block]; exact hn396_1) | exact hn396_1) (.slice A394_1 ((rd_T49 l0 x17_1).f1).length c394_1)).trans hx396_2; replace hx396_3 := (cell_far (p := ⟨gb395, 1, none⟩) (by first | (rw [add_block]; exact hn396_1) | (show (Addr.add _ _).block ≠ _; rw [add_block]; exact hn396_1) | exact hn396_1) (.slice A394_1 ((rd_T49 l0 x17_1).f1).length c394_1)).trans hx396_3; replace hx396_4 := (cell_far (p := ⟨gb395, 1, none⟩) (by first | (rw [add_block]; exact hn396_1) | (show (Addr.add _ _).block ≠ _; rw [add_block]; exact hn396_1) | exact hn396_1) (.slice A394_1 ((rd_T49 l0 x17_1).f1).length c394_1)).trans hx396_4; replace hx396_5 := (cell_far (p := ⟨gb395, 1, none⟩) (by first | (rw [add_block]; exact hn396_1) | (show (Addr.add _ _).block ≠ _; rw [add_block]; exact hn396_1) | exact hn396_1) (.slice A394_1 ((rd_T49 l0 x17_1).f1).length c394_1)).trans hx396_5; replace hx396_0 := (cell_far (p := ⟨gb395, 2, none⟩) (by first | (rw [add_block]; exact hn396_2) | (show (Addr.add _ _).block ≠ _; rw [add_block]; exact hn396_2) | exact hn396_2) (.slice A394_2 ((rd_T49 l0 x17_1).f2).length c394_2)).trans hx396_0; replace hx396_1 := (cell_far (p := ⟨gb395, 2, none⟩) (by first | (rw [add_block]; exact hn396_2) | (show (Addr.add _ _).block ≠ _; rw [add_block]; exact hn396_2) | exact hn396_2) (.slice A394_2 ((rd_T49 l0 x17_1).f2).length c394_2)).trans hx396_1; replace hx396_2 := (cell_far (p := ⟨gb395, 2, none⟩) (by first | (rw [add_block]; exact hn396_2) | (show (Addr.add _ _).block ≠ _; rw [add_block]; exact hn396_2) | exact hn396_2) (.slice A394_2 ((rd_T49 l0 x17_1).f2).length c394_2)).trans hx396_2; replace hx396_3 := (cell_far (p := ⟨gb395, 2, none⟩) (by first | (rw [add_block]; exact hn396_2) | (show (Addr.add _ _).block ≠ _; rw [add_block]; exact hn396_2) | exact hn396_2) (.slice A394_2 ((rd_T49 l0 x17_1).f2).length c394_2)).trans hx396_3; replace hx396_4 := (cell_far (p := ⟨gb395, 2, none⟩) (by first | (rw [add_block]; exact hn396_2) | (show (Addr.add _ _).block ≠ _; rw [add_block]; exact hn396_2) | exact hn396_2) (.slice A394_2 ((rd_T49 l0 x17_1).f2).length c394_2)).trans hx396_4; replace hx396_5 := (cell_far (p := ⟨gb395, 2, none⟩) (by first | (rw [add_block]; exact hn396_2) | (show (Addr.add _ _).block ≠ _; rw [add_block]; exact hn396_2) | exact hn396_2) (.slice A394_2 ((rd_T49 l0 x17_1).f2).length c394_2)).trans hx396_5; replace hx396_0 := (cell_far (p := ⟨gb395, 3, none⟩) (by first | (rw [add_block]; exact hn396_3) | (show (Addr.add _ _).block ≠ _; rw [add_block]; exact hn396_3) | exact hn396_3) (.int .u8 ((rd_T49 l0 x17_1).f3.f0))).trans hx396_0; replace hx396_1 := (cell_far (p := ⟨gb395, 3, none⟩) (by first | (rw [add_block]; exact hn396_3) | (show (Addr.add _ _).block ≠ _; rw [add_block]; exact hn396_3) | exact hn396_3) (.int .u8 ((rd_T49 l0 x17_1).f3.f0))).trans hx396_1; replace hx396_2 := (cell_far (p := ⟨gb395, 3, none⟩) (by first | (rw [add_block]; exact hn396_3) | (show (Addr.add _ _).block ≠ _; rw [add_block]; exact hn396_3) | exact hn396_3) (.int .u8 ((rd_T49 l0 x17_1).f3.f0))).trans hx396_2; replace hx396_3 := (cell_far (p := ⟨gb395, 3, none⟩) (by first | (rw [add_block]; exact hn396_3) | (show (Addr.add _ _).block ≠ _; rw [add_block]; exact hn396_3) | exact hn396_3) (.int .u8 ((rd_T49 l0 x17_1).f3.f0))).trans hx396_3; replace hx396_4 := (cell_far (p := ⟨gb395, 3, none⟩) (by first | (rw [add_block]; exact hn396_3) | (show (Addr.add _ _).block ≠ _; rw [add_block]; exact hn396_3) | exact hn396_3) (.int .u8 ((rd_T49 l0 x17_1).f3.f0))).trans hx396_4; replace hx396_5 := (cell_far (p := ⟨gb395, 3, none⟩) (by first | (rw [add_block]; exact hn396_3) | (show (Addr.add _ _).block ≠ _; rw [add_block]; exact hn396_3) | exact hn396_3) (.int .u8 ((rd_T49 l0 x17_1).f3.f0))).trans hx396_5; replace hx396_0 := (cell_far (p := ⟨gb395, 4, none⟩) (by first | (rw [add_block]; exact hn396_4) | (show (Addr.add _ _).block ≠ _; rw [add_block]; exact hn396_4) | exact hn396_4) (.int .u8 ((rd_T49 l0 x17_1).f3.f1))).trans hx396_0; replace hx396_1 := (cell_far (p := ⟨gb395, 4, none⟩) (by first | (rw [add_block]; exact hn396_4) | (show (Addr.add _ _).block ≠ _; rw [add_block]; exact hn396_4) | exact hn396_4) (.int .u8 ((rd_T49 l0 x17_1).f3.f1))).trans hx396_1; replace hx396_2 := (cell_far (p := ⟨gb395, 4, none⟩) (by first | (rw [add_block]; exact hn396_4) | (show (Addr.add _ _).block ≠ _; rw [add_block]; exact hn396_4) | exact hn396_4) (.int .u8 ((rd_T49 l0 x17_1).f3.f1))).trans hx396_2; replace hx396_3 := (cell_far (p := ⟨gb395, 4, none⟩) (by first | (rw [add_block]; exact hn396_4) | (show (Addr.add _ _).block ≠ _; rw [add_block]; exact hn396_4) | exact hn396_4) (.int .u8 ((rd_T49 l0 x17_1).f3.f1))).trans hx396_3; replace hx396_4 := (cell_far (p := ⟨gb395, 4, none⟩) (by first | (rw [add_block]; exact hn396_4) | (show (Addr.add _ _).block ≠ _; rw [add_block]; exact hn396_4) | exact hn396_4) (.int .u8 ((rd_T49 l0 x17_1).f3.f1))).trans hx396_4; replace hx396_5 := (cell_far (p := ⟨gb395, 4, none⟩) (by first | (rw [add_block]; exact hn396_4) | (show (Addr.add _ _).block ≠ _; rw [add_block]; exact hn396_4) | exact hn396_4) (.int .u8 ((rd_T49 l0 x17_1).f3.f1))).trans hx396_5; replace hx396_0 := (cell_far (p := ⟨gb395, 5, none⟩) (by first | (rw [add_block]; exact hn396_5) | (show (Addr.add _ _).block ≠ _; rw [add_block]; exact hn396_5) | exact hn396_5) (.int .u8 ((rd_T49 l0 x17_1).f3.f2))).trans hx396_0; replace hx396_1 := (cell_far (p := ⟨gb395, 5, none⟩) (by first | (rw [add_block]; exact hn396_5) | (show (Addr.add _ _).block ≠ _; rw [add_block]; exact hn396_5) | exact hn396_5) (.int .u8 ((rd_T49 l0 x17_1).f3.f2))).trans hx396_1; replace hx396_2 := (cell_far (p := ⟨gb395, 5, none⟩) (by first | (rw [add_block]; exact hn396_5) | (show (Addr.add _ _).block ≠ _; rw [add_block]; exact hn396_5) | exact hn396_5) (.int .u8 ((rd_T49 l0 x17_1).f3.f2))).trans hx396_2; replace hx396_3 := (cell_far (p := ⟨gb395, 5, none⟩) (by first | (rw [add_block]; exact hn396_5) | (show (Addr.add _ _).block ≠ _; rw [add_block]; exact hn396_5) | exact hn396_5) (.int .u8 ((rd_T49 l0 x17_1).f3.f2))).trans hx396_3; replace hx396_4 := (cell_far (p := ⟨gb395, 5, none⟩) (by first | (rw [add_block]; exact hn396_5) | (show (Addr.add _ _).block ≠ _; rw [add_block]; exact hn396_5) | exact hn396_5) (.int .u8 ((rd_T49 l0 x17_1).f3.f2))).trans hx396_4; replace hx396_5 := (cell_far (p := ⟨gb395, 5, none⟩) (by first | (rw [add_block]; exact hn396_5) | (show (Addr.add _ _).block ≠ _; rw [add_block]; exact hn396_5) | exact hn396_5) (.int .u8 ((rd_T49 l0 x17_1).f3.f2))).trans hx396_5; clear hn396_0; clear hn396_1; clear hn396_2; clear hn396_3; clear hn396_4; clear hn396_5; replace p396 := eq_true p396; replace q396 := eq_true q396) | ((with_reducible refine gate_dst (N := 9) rfl ?_); refine box_event ?hg (N := 9) ?hd (cs := #[.slice none 0 0, .slice none 0 0, .slice none 0 0, .int .u8 0, .int .u8 0, .int .u8 0]) (t := 49) ?hr ?_; (case hd => rfl); (case hg => rfl); (case hr => first | (go_simp; done) | (go_simp; rfl)); intro gb397 hg w13 hbox hb; have n0_ := asd (blk_below (g := gb395) (o := .cells #[.slice A394_0 ((rd_T49 l0 x17_1).f0).length c394_0, .slice A394_1 ((rd_T49 l0 x17_1).f1).length c394_1, .slice A394_2 ((rd_T49 l0 x17_1).f2).length c394_2, .int .u8 ((rd_T49 l0 x17_1).f3.f0), .int .u8 ((rd_T49 l0 x17_1).f3.f1), .int .u8 ((rd_T49 l0 x17_1).f3.f2)] 49 (0, 0)) (by (with_reducible repeat first | apply bn | apply bd | apply ba); refine blk_put (cs := #[.slice A394_0 ((rd_T49 l0 x17_1).f0).length c394_0, .slice A394_1 ((rd_T49 l0 x17_1).f1).length c394_1, .slice A394_2 ((rd_T49 l0 x17_1).f2).length c394_2, .int .u8 ((rd_T49 l0 x17_1).f3.f0), .int .u8 ((rd_T49 l0 x17_1).f3.f1), .int .u8 0]) ?_ 5 _ rfl; (with_reducible repeat first | apply bn | apply bd | apply ba); refine blk_put (cs := #[.slice A394_0 ((rd_T49 l0 x17_1).f0).length c394_0, .slice A394_1 ((rd_T49 l0 x17_1).f1).length c394_1, .slice A394_2 ((rd_T49 l0 x17_1).f2).length c394_2, .int .u8 ((rd_T49 l0 x17_1).f3.f0), .int .u8 0, .int .u8 0]) ?_ 4 _ rfl; (with_reducible repeat first | apply bn | apply bd | apply ba); refine blk_put (cs := #[.slice A394_0 ((rd_T49 l0 x17_1).f0).length c394_0, .slice A394_1 ((rd_T49 l0 x17_1).f1).length c394_1, .slice A394_2 ((rd_T49 l0 x17_1).f2).length c394_2, .int .u8 0, .int .u8 0, .int .u8 0]) ?_ 3 _ rfl; (with_reducible repeat first | apply bn | apply bd | apply ba); refine blk_put (cs := #[.slice A394_0 ((rd_T49 l0 x17_1).f0).length c394_0, .slice A394_1 ((rd_T49 l0 x17_1).f1).length c394_1, .slice none 0 0, .int .u8 0, .int .u8 0, .int .u8 0]) ?_ 2 _ rfl; (with_reducible repeat first | apply bn | apply bd | apply ba); refine blk_put (cs := #[.slice A394_0 ((rd_T49 l0 x17_1).f0).length c394_0, .slice none 0 0, .slice none 0 0, .int .u8 0, .int .u8 0, .int .u8 0]) ?_ 1 _ rfl; (with_reducible repeat first | apply bn | apply bd | apply ba); refine blk_put (cs := #[.slice none 0 0, .slice none 0 0, .slice none 0 0, .int .u8 0, .int .u8 0, .int .u8 0]) ?_ 0 _ rfl; (with_reducible repeat first | apply bn | apply bd | apply ba); exact BK395.out) hb); have n1_ := asd (below_step (by repeat (first | (with_reducible first | exact HB.out | apply wa | apply wn | apply wd | refine ws ?_ GE395.out) | exact HB.out)) hb); have n2_ := asd (hbox); have n3_ := asd ((by rw [hg]; exact (below_size (by repeat (first | (with_reducible first | exact HB.out | apply wa | apply wn | apply wd | refine ws ?_ GE395.out) | exact HB.out))) : w.heap.size ≤ gb397)); have n4_ := asd ((by rw [hg]; exact (below_size (by repeat (first | (with_reducible first | exact HB.out | apply wa | apply wn | apply wd | refine ws ?_ GE395.out) | exact HB.out))) : w.heap.size ≤ gb397)); have n5_ := asd ((by rw [hg]; exact Nat.ne_of_lt (blk_lt (g := gb395) (o := .cells #[.slice A394_0 ((rd_T49 l0 x17_1).f0).length c394_0, .slice A394_1 ((rd_T49 l0 x17_1).f1).length c394_1, .slice A394_2 ((rd_T49 l0 x17_1).f2).length c394_2, .int .u8 ((rd_T49 l0 x17_1).f3.f0), .int .u8 ((rd_T49 l0 x17_1).f3.f1), .int .u8 ((rd_T49 l0 x17_1).f3.f2)] 49 (0, 0)) (by (with_reducible repeat first | apply bn | apply bd | apply ba); refine blk_put (cs := #[.slice A394_0 ((rd_T49 l0 x17_1).f0).length c394_0, .slice A394_1 ((rd_T49 l0 x17_1).f1).length c394_1, .slice A394_2 ((rd_T49 l0 x17_1).f2).length c394_2, .int .u8 ((rd_T49 l0 x17_1).f3.f0), .int .u8 ((rd_T49 l0 x17_1).f3.f1), .int .u8 0]) ?_ 5 _ rfl; (with_reducible repeat first | apply bn | apply bd | apply ba); refine blk_put (cs := #[.slice A394_0 ((rd_T49 l0 x17_1).f0).length c394_0, .slice A394_1 ((rd_T49 l0 x17_1).f1).length c394_1, .slice A394_2 ((rd_T49 l0 x17_1).f2).length c394_2, .int .u8 ((rd_T49 l0 x17_1).f3.f0), .int .u8 0, .int .u8 0]) ?_ 4 _ rfl; (with_reducible repeat first | apply bn | apply bd | apply ba); refine blk_put (cs := #[.slice A394_0 ((rd_T49 l0 x17_1).f0).length c394_0, .slice A394_1 ((rd_T49 l0 x17_1).f1).length c394_1, .slice A394_2 ((rd_T49 l0 x17_1).f2).length c394_2, .int .u8 0, .int .u8 0, .int .u8 0]) ?_ 3 _ rfl; (with_reducible repeat first | apply bn | apply bd | apply ba); refine blk_put (cs := #[.slice A394_0 ((rd_T49 l0 x17_1).f0).length c394_0, .slice A394_1 ((rd_T49 l0 x17_1).f1).length c394_1, .slice none 0 0, .int .u8 0, .int .u8 0, .int .u8 0]) ?_ 2 _ rfl; (with_reducible repeat first | apply bn | apply bd | apply ba); refine blk_put (cs := #[.slice A394_0 ((rd_T49 l0 x17_1).f0).length c394_0, .slice none 0 0, .slice none 0 0, .int .u8 0, .int .u8 0, .int .u8 0]) ?_ 1 _ rfl; (with_reducible repeat first | apply bn | apply bd | apply ba); refine blk_put (cs := #[.slice none 0 0, .slice none 0 0, .slice none 0 0, .int .u8 0, .int .u8 0, .int .u8 0]) ?_ 0 _ rfl; (with_reducible repeat first | apply bn | apply bd | apply ba); exact BK395.out)) : gb395 ≠ gb397)); have n6_ := asd ((by rw [hg]; exact Nat.ne_of_gt (blk_lt (g := gb395) (o := .cells #[.slice A394_0 ((rd_T49 l0 x17_1).f0).length c394_0, .slice A394_1 ((rd_T49 l0 x17_1).f1).length c394_1, .slice A394_2 ((rd_T49 l0 x17_1).f2).length c394_2, .int .u8 ((rd_T49 l0 x17_1).f3.f0), .int .u8 ((rd_T49 l0 x17_1).f3.f1), .int .u8 ((rd_T49 l0 x17_1).f3.f2)] 49 (0, 0)) (by (with_reducible repeat first | apply bn | apply bd | apply ba); refine blk_put (cs := #[.slice A394_0 ((rd_T49 l0 x17_1).f0).length c394_0, .slice A394_1 ((rd_T49 l0 x17_1).f1).length c394_1, .slice A394_2 ((rd_T49 l0 x17_1).f2).length c394_2, .int .u8 ((rd_T49 l0 x17_1).f3.f0), .int .u8 ((rd_T49 l0 x17_1).f3.f1), .int .u8 0]) ?_ 5 _ rfl; (with_reducible repeat first | apply bn | apply bd | apply ba); refine blk_put (cs := #[.slice A394_0 ((rd_T49 l0 x17_1).f0).length c394_0, .slice A394_1 ((rd_T49 l0 x17_1).f1).length c394_1, .slice A394_2 ((rd_T49 l0 x17_1).f2).length c394_2, .int .u8 ((rd_T49 l0 x17_1).f3.f0), .int .u8 0, .int .u8 0]) ?_ 4 _ rfl; (with_reducible repeat first | apply bn | apply bd | apply ba); refine blk_put (cs := #[.slice A394_0 ((rd_T49 l0 x17_1).f0).length c394_0, .slice A394_1 ((rd_T49 l0 x17_1).f1).length c394_1, .slice A394_2 ((rd_T49 l0 x17_1).f2).length c394_2, .int .u8 0, .int .u8 0, .int .u8 0]) ?_ 3 _ rfl; (with_reducible repeat first | apply bn | apply bd | apply ba); refine blk_put (cs := #[.slice A394_0 ((rd_T49 l0 x17_1).f0).length c394_0, .slice A394_1 ((rd_T49 l0 x17_1).f1).length c394_1, .slice none 0 0, .int .u8 0, .int .u8 0, .int .u8 0]) ?_ 2 _ rfl; (with_reducible repeat first | apply bn | apply bd | apply ba); refine blk_put (cs := #[.slice A394_0 ((rd_T49 l0 x17_1).f0).length c394_0, .slice none 0 0, .slice none 0 0, .int .u8 0, .int .u8 0, .int .u8 0]) ?_ 1 _ rfl; (with_reducible repeat first | apply bn | apply bd | apply ba); refine blk_put (cs := #[.slice none 0 0, .slice none 0 0, .slice none 0 0, .int .u8 0, .int .u8 0, .int .u8 0]) ?_ 0 _ rfl; (with_reducible repeat first | apply bn | apply bd | apply ba); exact BK395.out)) : gb397 ≠ gb395)); clear BK395; clear HB; have BK395 := n0_; have HB := n1_; have BK397 := n2_; have GW397 := n3_; have GE397 := n4_; have NB395_397 := n5_; have NB397_395 := n6_; clear n0_ n1_ n2_ n3_ n4_ n5_ n6_; clear hb hbox hg; have hnb14 := NB397_395.out; have hnc14 := NB395_397.out; have hcz15_0 : w13.cell? ⟨gb397, 0, none⟩ = some (.slice none 0 0) := (blk_cell BK397.out 0).trans rfl; have hcz15_1 : w13.cell? ⟨gb397, 1, none⟩ = some (.slice none 0 0) := (blk_cell BK397.out 1).trans rfl; have hcz15_2 : w13.cell? ⟨gb397, 2, none⟩ = some (.slice none 0 0) := (blk_cell BK397.out 2).trans rfl; have hcz15_3 : w13.cell? ⟨gb397, 3, none⟩ = some (.int .u8 0) := (blk_cell BK397.out 3).trans rfl; have hcz15_4 : w13.cell? ⟨gb397, 4, none⟩ = some (.int .u8 0) := (blk_cell BK397.out 4).trans rfl; have hcz15_5 : w13.cell? ⟨gb397, 5, none⟩ = some (.int .u8 0) := (blk_cell BK397.out 5).trans rfl; have hfz15_0 := blk_frozen BK397.out 0; have hfz15_1 := blk_frozen BK397.out 1; have hfz15_2 := blk_frozen BK397.out 2; have hfz15_3 := blk_frozen BK397.out 3; have hfz15_4 := blk_frozen BK397.out 4; have hfz15_5 := blk_frozen BK397.out 5; have hcz16_0 : w13.cell? ⟨gb395, 0, none⟩ = some (.slice A394_0 ((rd_T49 l0 x17_1).f0).length c394_0) := (blk_cell BK395.out 0).trans rfl; have hcz16_1 : w13.cell? ⟨gb395, 1, none⟩ = some (.slice A394_1 ((rd_T49 l0 x17_1).f1).length c394_1) := (blk_cell BK395.out 1).trans rfl; have hcz16_2 : w13.cell? ⟨gb395, 2, none⟩ = some (.slice A394_2 ((rd_T49 l0 x17_1).f2).length c394_2) := (blk_cell BK395.out 2).trans rfl; have hcz16_3 : w13.cell? ⟨gb395, 3, none⟩ = some (.int .u8 ((rd_T49 l0 x17_1).f3.f0)) := (blk_cell BK395.out 3).trans rfl; have hcz16_4 : w13.cell? ⟨gb395, 4, none⟩ = some (.int .u8 ((rd_T49 l0 x17_1).f3.f1)) := (blk_cell BK395.out 4).trans rfl; have hcz16_5 : w13.cell? ⟨gb395, 5, none⟩ = some (.int .u8 ((rd_T49 l0 x17_1).f3.f2)) := (blk_cell BK395.out 5).trans rfl; have hfz16_0 := blk_frozen BK395.out 0; have hfz16_1 := blk_frozen BK395.out 1; have hfz16_2 := blk_frozen BK395.out 2; have hfz16_3 := blk_frozen BK395.out 3; have hfz16_4 := blk_frozen BK395.out 4; have hfz16_5 := blk_frozen BK395.out 5) | (go_at_call 63; (with_reducible refine (conf_same.calls k1 _ _ ((rd_T49 l0 x17_1).f0) _ _ ((rd_T49 l0 x17_1).f1) _ _ ((rd_T49 l0 x17_1).f2) ((rd_T49 l0 x17_1).f3.f0) ((rd_T49 l0 x17_1).f3.f1) ((rd_T49 l0 x17_1).f3.f2) _ _ ((rd_T49 l1 x17_1).f0) _ _ ((rd_T49 l1 x17_1).f1) _ _ ((rd_T49 l1 x17_1).f2) ((rd_T49 l1 x17_1).f3.f0) ((rd_T49 l1 x17_1).f3.f1) ((rd_T49 l1 x17_1).f3.f2) true _ ?side1 ?side2 ?side3 ?side4 ?side5 ?side6 ?side7 ?side8 ?side9 ?side10 ?side11 ?side12 A9.out).mono ?_); (case side1 => exact Kd.C_below HR394_0.out (by repeat (first | (with_reducible first | exact HB.out | apply wa | apply wn | apply wd | refine ws ?_ GE395.out | refine ws ?_ GE397.out) | exact HB.out))); (case side2 => exact HC394_0.out); (case side3 => exact Kd.C_below HR394_1.out (by repeat (first | (with_reducible first | exact HB.out | apply wa | apply wn | apply wd | refine ws ?_ GE395.out | refine ws ?_ GE397.out) | exact HB.out))); (case side4 => exact HC394_1.out); (case side5 => exact Kd.C_below HR394_2.out (by repeat (first | (with_reducible first | exact HB.out | apply wa | apply wn | apply wd | refine ws ?_ GE395.out | refine ws ?_ GE397.out) | exact HB.out))); (case side6 => exact HC394_2.out); (case side7 => exact Kd.C_below HR396_0.out (by repeat (first | (with_reducible first | exact HB.out | apply wa | apply wn | apply wd | refine ws ?_ GE395.out | refine ws ?_ GE397.out) | exact HB.out))); (case side8 => exact HC396_0.out); (case side9 => exact Kd.C_below HR396_1.out (by repeat (first | (with_reducible first | exact HB.out | apply wa | apply wn | apply wd | refine ws ?_ GE395.out | refine ws ?_ GE397.out) | exact HB.out))); (case side10 => exact HC396_1.out); (case side11 => exact Kd.C_below HR396_2.out (by repeat (first | (with_reducible first | exact HB.out | apply wa | apply wn | apply wd | refine ws ?_ GE395.out | refine ws ?_ GE397.out) | exact HB.out))); (case side12 => exact HC396_2.out); rintro e w17 ⟨rfl, hb⟩; have n0_ := asd (blk_below (g := gb395) (o := .cells #[.slice A394_0 ((rd_T49 l0 x17_1).f0).length c394_0, .slice A394_1 ((rd_T49 l0 x17_1).f1).length c394_1, .slice A394_2 ((rd_T49 l0 x17_1).f2).length c394_2, .int .u8 ((rd_T49 l0 x17_1).f3.f0), .int .u8 ((rd_T49 l0 x17_1).f3.f1), .int .u8 ((rd_T49 l0 x17_1).f3.f2)] 49 (0, 0)) (by (with_reducible repeat first | apply bn | apply bd | apply ba); refine blk_far ?_ NB395_397.out _; (with_reducible repeat first | apply bn | apply bd | apply ba); refine blk_far ?_ NB395_397.out _; (with_reducible repeat first | apply bn | apply bd | apply ba); refine blk_far ?_ NB395_397.out _; (with_reducible repeat first | apply bn | apply bd | apply ba); refine blk_far ?_ NB395_397.out _; (with_reducible repeat first | apply bn | apply bd | apply ba); refine blk_far ?_ NB395_397.out _; (with_reducible repeat first | apply bn | apply bd | apply ba); refine blk_far ?_ NB395_397.out _; (with_reducible repeat first | apply bn | apply bd | apply ba); exact BK395.out) hb); have n1_ := asd (blk_below (g := gb397) (o := .cells #[.slice A396_0 ((rd_T49 l1 x17_1).f0).length c396_0, .slice A396_1 ((rd_T49 l1 x17_1).f1).length c396_1, .slice A396_2 ((rd_T49 l1 x17_1).f2).length c396_2, .int .u8 ((rd_T49 l1 x17_1).f3.f0), .int .u8 ((rd_T49 l1 x17_1).f3.f1), .int .u8 ((rd_T49 l1 x17_1).f3.f2)] 49 (0, 0)) (by (with_reducible repeat first | apply bn | apply bd | apply ba); refine blk_put (cs := #[.slice A396_0 ((rd_T49 l1 x17_1).f0).length c396_0, .slice A396_1 ((rd_T49 l1 x17_1).f1).length c396_1, .slice A396_2 ((rd_T49 l1 x17_1).f2).length c396_2, .int .u8 ((rd_T49 l1 x17_1).f3.f0), .int .u8 ((rd_T49 l1 x17_1).f3.f1), .int .u8 0]) ?_ 5 _ rfl; (with_reducible repeat first | apply bn | apply bd | apply ba); refine blk_put (cs := #[.slice A396_0 ((rd_T49 l1 x17_1).f0).length c396_0, .slice A396_1 ((rd_T49 l1 x17_1).f1).length c396_1, .slice A396_2 ((rd_T49 l1 x17_1).f2).length c396_2, .int .u8 ((rd_T49 l1 x17_1).f3.f0), .int .u8 0, .int .u8 0]) ?_ 4 _ rfl; (with_reducible repeat first | apply bn | apply bd | apply ba); refine blk_put (cs := #[.slice A396_0 ((rd_T49 l1 x17_1).f0).length c396_0, .slice A396_1 ((rd_T49 l1 x17_1).f1).length c396_1, .slice A396_2 ((rd_T49 l1 x17_1).f2).length c396_2, .int .u8 0, .int .u8 0, .int .u8 0]) ?_ 3 _ rfl; (with_reducible repeat first | apply bn | apply bd | apply ba); refine blk_put (cs := #[.slice A396_0 ((rd_T49 l1 x17_1).f0).length c396_0, .slice A396_1 ((rd_T49 l1 x17_1).f1).length c396_1, .slice none 0 0, .int .u8 0, .int .u8 0, .int .u8 0]) ?_ 2 _ rfl; (with_reducible repeat first | apply bn | apply bd | apply ba); refine blk_put (cs := #[.slice A396_0 ((rd_T49 l1 x17_1).f0).length c396_0, .slice none 0 0, .slice none 0 0, .int .u8 0, .int .u8 0, .int .u8 0]) ?_ 1 _ rfl; (with_reducible repeat first | apply bn | apply bd | apply ba); refine blk_put (cs := #[.slice none 0 0, .slice none 0 0, .slice none 0 0, .int .u8 0, .int .u8 0, .int .u8 0]) ?_ 0 _ rfl; (with_reducible repeat first | apply bn | apply bd | apply ba); exact BK397.out) hb); have n2_ := asd (below_step (by repeat (first | (with_reducible first | exact HB.out | apply wa | apply wn | apply wd | refine ws ?_ GE395.out | refine ws ?_ GE397.out) | exact HB.out)) hb); clear BK395; clear BK397; clear HB; have BK395 := n0_; have BK397 := n1_; have HB := n2_; clear n0_ n1_ n2_; (try clear hb); (try clear hb2); (try clear hk); (try clear hi)))
         go_roundg k1
         case measure => have := HK1.out; omega
         case rel => exact ⟨(wrap64 (x17_1 + 1)), (by first | rfl | (simp; done) | (simp [*]; done)), H', ⟨by have := HK1.out; omega⟩, ⟨by repeat (first | (with_reducible first | exact HB.out | apply wa | apply wn | apply wd | refine ws ?_ GE395.out | refine ws ?_ GE397.out) | exact HB.out)⟩⟩
        ·replace c10 := Bool.eq_false_iff.mpr c10
         subst c10
         have H1 : (some false) = some r := by rw [if_neg (show ¬ (false = true) by decide)] at H; exact H
         clear H
         have H := H1
         clear H1
         obtain rfl := Option.some.inj H
         have p394 : 0 ≤ (x17_1 : Int) := of_decide_eq_true (by assumption)
         have q394 : x17_1 < (l0.length : Int) := of_decide_eq_true (by assumption)
         obtain ⟨ad394, A394_0, c394_0, A394_1, c394_1, A394_2, c394_2, e394, hx394_0, hx394_1, hx394_2, hx394_3, hx394_4, hx394_5, hl394_0, hi394_0, hl394_1, hi394_1, hl394_2, hi394_2⟩ := at_T49 HR0.out x17_1 p394 q394
         cases e394
         replace hx394_0 := (HB.out.cell (World.block_lt_of_cell? w _ hx394_0)).trans hx394_0
         replace hx394_1 := (HB.out.cell (World.block_lt_of_cell? w _ hx394_1)).trans hx394_1
         replace hx394_2 := (HB.out.cell (World.block_lt_of_cell? w _ hx394_2)).trans hx394_2
         replace hx394_3 := (HB.out.cell (World.block_lt_of_cell? w _ hx394_3)).trans hx394_3
         replace hx394_4 := (HB.out.cell (World.block_lt_of_cell? w _ hx394_4)).trans hx394_4
         replace hx394_5 := (HB.out.cell (World.block_lt_of_cell? w _ hx394_5)).trans hx394_5
         have HR394_0 := asd hi394_0
         have HC394_0 := asd hl394_0
         clear hi394_0 hl394_0
         have HR394_1 := asd hi394_1
         have HC394_1 := asd hl394_1
         clear hi394_1 hl394_1
         have HR394_2 := asd hi394_2
         have HC394_2 := asd hl394_2
         clear hi394_2 hl394_2
         replace p394 := eq_true p394
         replace q394 := eq_true q394
         go_wp2_with (first | ((with_reducible refine gate_dst (N := 8) rfl ?_); refine box_event ?hg (N := 8) ?hd (cs := #[.slice none 0 0, .slice none 0 0, .slice none 0 0, .int .u8 0, .int .u8 0, .int .u8 0]) (t := 49) ?hr ?_; (case hd => rfl); (case hg => rfl); (case hr => first | (go_simp; done) | (go_simp; rfl)); intro gb395 hg w18 hbox hb; have n0_ := asd (below_step (by repeat (first | (with_reducible first | exact HB.out | apply wa | apply wn | apply wd) | exact HB.out)) hb); have n1_ := asd (hbox); have n2_ := asd ((by rw [hg]; exact (below_size (by repeat (first | (with_reducible first | exact HB.out | apply wa | apply wn | apply wd) | exact HB.out))) : w.heap.size ≤ gb395)); have n3_ := asd ((by rw [hg]; exact (below_size (by repeat (first | (with_reducible first | exact HB.out | apply wa | apply wn | apply wd) | exact HB.out))) : w.heap.size ≤ gb395)); clear HB; have HB := n0_; have BK395 := n1_; have GW395 := n2_; have GE395 := n3_; clear n0_ n1_ n2_ n3_; clear hb hbox hg; have hcz19_0 : w18.cell? ⟨gb395, 0, none⟩ = some (.slice none 0 0) := (blk_cell BK395.out 0).trans rfl; have hcz19_1 : w18.cell? ⟨gb395, 1, none⟩ = some (.slice none 0 0) := (blk_cell BK395.out 1).trans rfl; have hcz19_2 : w18.cell? ⟨gb395, 2, none⟩ = some (.slice none 0 0) := (blk_cell BK395.out 2).trans rfl; have hcz19_3 : w18.cell? ⟨gb395, 3, none⟩ = some (.int .u8 0) := (blk_cell BK395.out 3).trans rfl; have hcz19_4 : w18.cell? ⟨gb395, 4, none⟩ = some (.int .u8 0) := (blk_cell BK395.out 4).trans rfl; have hcz19_5 : w18.cell? ⟨gb395, 5, none⟩ = some (.int .u8 0) := (blk_cell BK395.out 5).trans rfl; have hfz19_0 := blk_frozen BK395.out 0; have hfz19_1 := blk_frozen BK395.out 1; have hfz19_2 := blk_frozen BK395.out 2; have hfz19_3 := blk_frozen BK395.out 3; have hfz19_4 := blk_frozen BK395.out 4; have hfz19_5 := blk_frozen BK395.out 5; have p396 : 0 ≤ (x17_1 : Int) := of_decide_eq_true (by assumption); have q396 : x17_1 < (l1.length : Int) := of_decide_eq_true (by assumption); obtain ⟨ad396, A396_0, c396_0, A396_1, c396_1, A396_2, c396_2, e396, hx396_0, hx396_1, hx396_2, hx396_3, hx396_4, hx396_5, hl396_0, hi396_0, hl396_1, hi396_1, hl396_2, hi396_2⟩ := at_T49 HR1.out x17_1 p396 q396; cases e396; have hn396_0 : ad396.block ≠ gb395 := Nat.ne_of_lt (Nat.lt_of_lt_of_le (by have := World.block_lt_of_cell? _ _ hx396_0; first | rwa [add_block] at this | exact this) GW395.out); have hn396_1 : ad396.block ≠ gb395 := Nat.ne_of_lt (Nat.lt_of_lt_of_le (by have := World.block_lt_of_cell? _ _ hx396_0; first | rwa [add_block] at this | exact this) GW395.out); have hn396_2 : ad396.block ≠ gb395 := Nat.ne_of_lt (Nat.lt_of_lt_of_le (by have := World.block_lt_of_cell? _ _ hx396_0; first | rwa [add_block] at this | exact this) GW395.out); have hn396_3 : ad396.block ≠ gb395 := Nat.ne_of_lt (Nat.lt_of_lt_of_le (by have := World.block_lt_of_cell? _ _ hx396_0; first | rwa [add_block] at this | exact this) GW395.out); have hn396_4 : ad396.block ≠ gb395 := Nat.ne_of_lt (Nat.lt_of_lt_of_le (by have := World.block_lt_of_cell? _ _ hx396_0; first | rwa [add_block] at this | exact this) GW395.out); have hn396_5 : ad396.block ≠ gb395 := Nat.ne_of_lt (Nat.lt_of_lt_of_le (by have := World.block_lt_of_cell? _ _ hx396_0; first | rwa [add_block] at this | exact this) GW395.out); replace hx396_0 := (HB.out.cell (World.block_lt_of_cell? w _ hx396_0)).trans hx396_0; replace hx396_1 := (HB.out.cell (World.block_lt_of_cell? w _ hx396_1)).trans hx396_1; replace hx396_2 := (HB.out.cell (World.block_lt_of_cell? w _ hx396_2)).trans hx396_2; replace hx396_3 := (HB.out.cell (World.block_lt_of_cell? w _ hx396_3)).trans hx396_3; replace hx396_4 := (HB.out.cell (World.block_lt_of_cell? w _ hx396_4)).trans hx396_4; replace hx396_5 := (HB.out.cell (World.block_lt_of_cell? w _ hx396_5)).trans hx396_5; have HR396_0 := asd hi396_0; have HC396_0 := asd hl396_0; clear hi396_0 hl396_0; have HR396_1 := asd hi396_1; have HC396_1 := asd hl396_1; clear hi396_1 hl396_1; have HR396_2 := asd hi396_2; have HC396_2 := asd hl396_2; clear hi396_2 hl396_2; replace hx396_0 := (cell_far (p := ⟨gb395, 0, none⟩) (by first | (rw [add_block]; exact hn396_0) | (show (Addr.add _ _).block ≠ _; rw [add_block]; exact hn396_0) | exact hn396_0) (.slice A394_0 ((rd_T49 l0 x17_1).f0).length c394_0)).trans hx396_0; replace hx396_1 := (cell_far (p := ⟨gb395, 0, none⟩) (by first | (rw [add_block]; exact hn396_0) | (show (Addr.add _ _).block ≠ _; rw [add_block]; exact hn396_0) | exact hn396_0) (.slice A394_0 ((rd_T49 l0 x17_1).f0).length c394_0)).trans hx396_1; replace hx396_2 := (cell_far (p := ⟨gb395, 0, none⟩) (by first | (rw [add_block]; exact hn396_0) | (show (Addr.add _ _).block ≠ _; rw [add_block]; exact hn396_0) | exact hn396_0) (.slice A394_0 ((rd_T49 l0 x17_1).f0).length c394_0)).trans hx396_2; replace hx396_3 := (cell_far (p := ⟨gb395, 0, none⟩) (by first | (rw [add_block]; exact hn396_0) | (show (Addr.add _ _).block ≠ _; rw [add_block]; exact hn396_0) | exact hn396_0) (.slice A394_0 ((rd_T49 l0 x17_1).f0).length c394_0)).trans hx396_3; replace hx396_4 := (cell_far (p := ⟨gb395, 0, none⟩) (by first | (rw [add_block]; exact hn396_0) | (show (Addr.add _ _).block ≠ _; rw [add_block]; exact hn396_0) | exact hn396_0) (.slice A394_0 ((rd_T49 l0 x17_1).f0).length c394_0)).trans hx396_4; replace hx396_5 := (cell_far (p := ⟨gb395, 0, none⟩) (by first | (rw [add_block]; exact hn396_0) | (show (Addr.add _ _).block ≠ _; rw [add_block]; exact hn396_0) | exact hn396_0) (.slice A394_0 ((rd_T49 l0 x17_1).f0).length c394_0)).trans hx396_5; replace hx396_0 := (cell_far (p := ⟨gb395, 1, none⟩) (by first | (rw [add_block]; exact hn396_1) | (show (Addr.add _ _).block ≠ _; rw [add_block]; exact hn396_1) | exact hn396_1) (.slice A394_1 ((rd_T49 l0 x17_1).f1).length c394_1)).trans hx396_0; replace hx396_1 := (cell_far (p := ⟨gb395, 1, none⟩) (by first | (rw [add_block]; exact hn396_1) | (show (Addr.add _ _).block ≠ _; rw [add_block]; exact hn396_1) | exact hn396_1) (.slice A394_1 ((rd_T49 l0 x17_1).f1).length c394_1)).trans hx396_1; replace hx396_2 := (cell_far (p := ⟨gb395, 1, none⟩) (by first | (rw [add_block]; exact hn396_1) | (show (Addr.add _ _).block ≠ _; rw [add_block]; exact hn396_1) | exact hn396_1) (.slice A394_1 ((rd_T49 l0 x17_1).f1).length c394_1)).trans hx396_2; replace hx396_3 := (cell_far (p := ⟨gb395, 1, none⟩) (by first | (rw [add_block]; exact hn396_1) | (show (Addr.add _ _).block ≠ _; rw [add_block]; exact hn396_1) | exact hn396_1) (.slice A394_1 ((rd_T49 l0 x17_1).f1).length c394_1)).trans hx396_3; replace hx396_4 := (cell_far (p := ⟨gb395, 1, none⟩) (by first | (rw [add_block]; exact hn396_1) | (show (Addr.add _ _).block ≠ _; rw [add_block]; exact hn396_1) | exact hn396_1) (.slice A394_1 ((rd_T49 l0 x17_1).f1).length c394_1)).trans hx396_4; replace hx396_5 := (cell_far (p := ⟨gb395, 1, none⟩) (by first | (rw [add_block]; exact hn396_1) | (show (Addr.add _ _).block ≠ _; rw [add_block]; exact hn396_1) | exact hn396_1) (.slice A394_1 ((rd_T49 l0 x17_1).f1).length c394_1)).trans hx396_5; replace hx396_0 := (cell_far (p := ⟨gb395, 2, none⟩) (by first | (rw [add_block]; exact hn396_2) | (show (Addr.add _ _).block ≠ _; rw [add_block]; exact hn396_2) | exact hn396_2) (.slice A394_2 ((rd_T49 l0 x17_1).f2).length c394_2)).trans hx396_0; replace hx396_1 := (cell_far (p := ⟨gb395, 2, none⟩) (by first | (rw [add_block]; exact hn396_2) | (show (Addr.add _ _).block ≠ _; rw [add_block]; exact hn396_2) | exact hn396_2) (.slice A394_2 ((rd_T49 l0 x17_1).f2).length c394_2)).trans hx396_1; replace hx396_2 := (cell_far (p := ⟨gb395, 2, none⟩) (by first | (rw [add_block]; exact hn396_2) | (show (Addr.add _ _).block ≠ _; rw [add_block]; exact hn396_2) | exact hn396_2) (.slice A394_2 ((rd_T49 l0 x17_1).f2).length c394_2)).trans hx396_2; replace hx396_3 := (cell_far (p := ⟨gb395, 2, none⟩) (by first | (rw [add_block]; exact hn396_2) | (show (Addr.add _ _).block ≠ _; rw [add_block]; exact hn396_2) | exact hn396_2) (.slice A394_2 ((rd_T49 l0 x17_1).f2).length c394_2)).trans hx396_3; replace hx396_4 := (cell_far (p := ⟨gb395, 2, none⟩) (by first | (rw [add_block]; exact hn396_2) | (show (Addr.add _ _).block ≠ _; rw [add_block]; exact hn396_2) | exact hn396_2) (.slice A394_2 ((rd_T49 l0 x17_1).f2).length c394_2)).trans hx396_4; replace hx396_5 := (cell_far (p := ⟨gb395, 2, none⟩) (by first | (rw [add_block]; exact hn396_2) | (show (Addr.add _ _).block ≠ _; rw [add_block]; exact hn396_2) | exact hn396_2) (.slice A394_2 ((rd_T49 l0 x17_1).f2).length c394_2)).trans hx396_5; replace hx396_0 := (cell_far (p := ⟨gb395, 3, none⟩) (by first | (rw [add_block]; exact hn396_3) | (show (Addr.add _ _).block ≠ _; rw [add_block]; exact hn396_3) | exact hn396_3) (.int .u8 ((rd_T49 l0 x17_1).f3.f0))).trans hx396_0; replace hx396_1 := (cell_far (p := ⟨gb395, 3, none⟩) (by first | (rw [add_block]; exact hn396_3) | (show (Addr.add _ _).block ≠ _; rw [add_block]; exact hn396_3) | exact hn396_3) (.int .u8 ((rd_T49 l0 x17_1).f3.f0))).trans hx396_1; replace hx396_2 := (cell_far (p := ⟨gb395, 3, none⟩) (by first | (rw [add_block]; exact hn396_3) | (show (Addr.add _ _).block ≠ _; rw [add_block]; exact hn396_3) | exact hn396_3) (.int .u8 ((rd_T49 l0 x17_1).f3.f0))).trans hx396_2; replace hx396_3 := (cell_far (p := ⟨gb395, 3, none⟩) (by first | (rw [add_block]; exact hn396_3) | (show (Addr.add _ _).block ≠ _; rw [add_block]; exact hn396_3) | exact hn396_3) (.int .u8 ((rd_T49 l0 x17_1).f3.f0))).trans hx396_3; replace hx396_4 := (cell_far (p := ⟨gb395, 3, none⟩) (by first | (rw [add_block]; exact hn396_3) | (show (Addr.add _ _).block ≠ _; rw [add_block]; exact hn396_3) | exact hn396_3) (.int .u8 ((rd_T49 l0 x17_1).f3.f0))).trans hx396_4; replace hx396_5 := (cell_far (p := ⟨gb395, 3, none⟩) (by first | (rw [add_block]; exact hn396_3) | (show (Addr.add _ _).block ≠ _; rw [add_block]; exact hn396_3) | exact hn396_3) (.int .u8 ((rd_T49 l0 x17_1).f3.f0))).trans hx396_5; replace hx396_0 := (cell_far (p := ⟨gb395, 4, none⟩) (by first | (rw [add_block]; exact hn396_4) | (show (Addr.add _ _).block ≠ _; rw [add_block]; exact hn396_4) | exact hn396_4) (.int .u8 ((rd_T49 l0 x17_1).f3.f1))).trans hx396_0; replace hx396_1 := (cell_far (p := ⟨gb395, 4, none⟩) (by first | (rw [add_block]; exact hn396_4) | (show (Addr.add _ _).block ≠ _; rw [add_block]; exact hn396_4) | exact hn396_4) (.int .u8 ((rd_T49 l0 x17_1).f3.f1))).trans hx396_1; replace hx396_2 := (cell_far (p := ⟨gb395, 4, none⟩) (by first | (rw [add_block]; exact hn396_4) | (show (Addr.add _ _).block ≠ _; rw [add_block]; exact hn396_4) | exact hn396_4) (.int .u8 ((rd_T49 l0 x17_1).f3.f1))).trans hx396_2; replace hx396_3 := (cell_far (p := ⟨gb395, 4, none⟩) (by first | (rw [add_block]; exact hn396_4) | (show (Addr.add _ _).block ≠ _; rw [add_block]; exact hn396_4) | exact hn396_4) (.int .u8 ((rd_T49 l0 x17_1).f3.f1))).trans hx396_3; replace hx396_4 := (cell_far (p := ⟨gb395, 4, none⟩) (by first | (rw [add_block]; exact hn396_4) | (show (Addr.add _ _).block ≠ _; rw [add_block]; exact hn396_4) | exact hn396_4) (.int .u8 ((rd_T49 l0 x17_1).f3.f1))).trans hx396_4; replace hx396_5 := (cell_far (p := ⟨gb395, 4, none⟩) (by first | (rw [add_block]; exact hn396_4) | (show (Addr.add _ _).block ≠ _; rw [add_block]; exact hn396_4) | exact hn396_4) (.int .u8 ((rd_T49 l0 x17_1).f3.f1))).trans hx396_5; replace hx396_0 := (cell_far (p := ⟨gb395, 5, none⟩) (by first | (rw [add_block]; exact hn396_5) | (show (Addr.add _ _).block ≠ _; rw [add_block]; exact hn396_5) | exact hn396_5) (.int .u8 ((rd_T49 l0 x17_1).f3.f2))).trans hx396_0; replace hx396_1 := (cell_far (p := ⟨gb395, 5, none⟩) (by first | (rw [add_block]; exact hn396_5) | (show (Addr.add _ _).block ≠ _; rw [add_block]; exact hn396_5) | exact hn396_5) (.int .u8 ((rd_T49 l0 x17_1).f3.f2))).trans hx396_1; replace hx396_2 := (cell_far (p := ⟨gb395, 5, none⟩) (by first | (rw [add_block]; exact hn396_5) | (show (Addr.add _ _).block ≠ _; rw [add_block]; exact hn396_5) | exact hn396_5) (.int .u8 ((rd_T49 l0 x17_1).f3.f2))).trans hx396_2; replace hx396_3 := (cell_far (p := ⟨gb395, 5, none⟩) (by first | (rw [add_block]; exact hn396_5) | (show (Addr.add _ _).block ≠ _; rw [add_block]; exact hn396_5) | exact hn396_5) (.int .u8 ((rd_T49 l0 x17_1).f3.f2))).trans hx396_3; replace hx396_4 := (cell_far (p := ⟨gb395, 5, none⟩) (by first | (rw [add_block]; exact hn396_5) | (show (Addr.add _ _).block ≠ _; rw [add_block]; exact hn396_5) | exact hn396_5) (.int .u8 ((rd_T49 l0 x17_1).f3.f2))).trans hx396_4; replace hx396_5 := (cell_far (p := ⟨gb395, 5, none⟩) (by first | (rw [add_block]; exact hn396_5) | (show (Addr.add _ _).block ≠ _; rw [add_block]; exact hn396_5) | exact hn396_5) (.int .u8 ((rd_T49 l0 x17_1).f3.f2))).trans hx396_5; clear hn396_0; clear hn396_1; clear hn396_2; clear hn396_3; clear hn396_4; clear hn396_5; replace p396 := eq_true p396; replace q396 := eq_true q396) | ((with_reducible refine gate_dst (N := 9) rfl ?_); refine box_event ?hg (N := 9) ?hd (cs := #[.slice none 0 0, .slice none 0 0, .slice none 0 0, .int .u8 0, .int .u8 0, .int .u8 0]) (t := 49) ?hr ?_; (case hd => rfl); (case hg => rfl); (case hr => first | (go_simp; done) | (go_simp; rfl)); intro gb397 hg w20 hbox hb; have n0_ := asd (blk_below (g := gb395) (o := .cells #[.slice A394_0 ((rd_T49 l0 x17_1).f0).length c394_0, .slice A394_1 ((rd_T49 l0 x17_1).f1).length c394_1, .slice A394_2 ((rd_T49 l0 x17_1).f2).length c394_2, .int .u8 ((rd_T49 l0 x17_1).f3.f0), .int .u8 ((rd_T49 l0 x17_1).f3.f1), .int .u8 ((rd_T49 l0 x17_1).f3.f2)] 49 (0, 0)) (by (with_reducible repeat first | apply bn | apply bd | apply ba); refine blk_put (cs := #[.slice A394_0 ((rd_T49 l0 x17_1).f0).length c394_0, .slice A394_1 ((rd_T49 l0 x17_1).f1).length c394_1, .slice A394_2 ((rd_T49 l0 x17_1).f2).length c394_2, .int .u8 ((rd_T49 l0 x17_1).f3.f0), .int .u8 ((rd_T49 l0 x17_1).f3.f1), .int .u8 0]) ?_ 5 _ rfl; (with_reducible repeat first | apply bn | apply bd | apply ba); refine blk_put (cs := #[.slice A394_0 ((rd_T49 l0 x17_1).f0).length c394_0, .slice A394_1 ((rd_T49 l0 x17_1).f1).length c394_1, .slice A394_2 ((rd_T49 l0 x17_1).f2).length c394_2, .int .u8 ((rd_T49 l0 x17_1).f3.f0), .int .u8 0, .int .u8 0]) ?_ 4 _ rfl; (with_reducible repeat first | apply bn | apply bd | apply ba); refine blk_put (cs := #[.slice A394_0 ((rd_T49 l0 x17_1).f0).length c394_0, .slice A394_1 ((rd_T49 l0 x17_1).f1).length c394_1, .slice A394_2 ((rd_T49 l0 x17_1).f2).length c394_2, .int .u8 0, .int .u8 0, .int .u8 0]) ?_ 3 _ rfl; (with_reducible repeat first | apply bn | apply bd | apply ba); refine blk_put (cs := #[.slice A394_0 ((rd_T49 l0 x17_1).f0).length c394_0, .slice A394_1 ((rd_T49 l0 x17_1).f1).length c394_1, .slice none 0 0, .int .u8 0, .int .u8 0, .int .u8 0]) ?_ 2 _ rfl; (with_reducible repeat first | apply bn | apply bd | apply ba); refine blk_put (cs := #[.slice A394_0 ((rd_T49 l0 x17_1).f0).length c394_0, .slice none 0 0, .slice none 0 0, .int .u8 0, .int .u8 0, .int .u8 0]) ?_ 1 _ rfl; (with_reducible repeat first | apply bn | apply bd | apply ba); refine blk_put (cs := #[.slice none 0 0, .slice none 0 0, .slice none 0 0, .int .u8 0, .int .u8 0, .int .u8 0]) ?_ 0 _ rfl; (with_reducible repeat first | apply bn | apply bd | apply ba); exact BK395.out) hb); have n1_ := asd (below_step (by repeat (first | (with_reducible first | exact HB.out | apply wa | apply wn | apply wd | refine ws ?_ GE395.out) | exact HB.out)) hb); have n2_ := asd (hbox); have n3_ := asd ((by rw [hg]; exact (below_size (by repeat (first | (with_reducible first | exact HB.out | apply wa | apply wn | apply wd | refine ws ?_ GE395.out) | exact HB.out))) : w.heap.size ≤ gb397)); have n4_ := asd ((by rw [hg]; exact (below_size (by repeat (first | (with_reducible first | exact HB.out | apply wa | apply wn | apply wd | refine ws ?_ GE395.out) | exact HB.out))) : w.heap.size ≤ gb397)); have n5_ := asd ((by rw [hg]; exact Nat.ne_of_lt (blk_lt (g := gb395) (o := .cells #[.slice A394_0 ((rd_T49 l0 x17_1).f0).length c394_0, .slice A394_1 ((rd_T49 l0 x17_1).f1).length c394_1, .slice A394_2 ((rd_T49 l0 x17_1).f2).length c394_2, .int .u8 ((rd_T49 l0 x17_1).f3.f0), .int .u8 ((rd_T49 l0 x17_1).f3.f1), .int .u8 ((rd_T49 l0 x17_1).f3.f2)] 49 (0, 0)) (by (with_reducible repeat first | apply bn | apply bd | apply ba); refine blk_put (cs := #[.slice A394_0 ((rd_T49 l0 x17_1).f0).length c394_0, .slice A394_1 ((rd_T49 l0 x17_1).f1).length c394_1, .slice A394_2 ((rd_T49 l0 x17_1).f2).length c394_2, .int .u8 ((rd_T49 l0 x17_1).f3.f0), .int .u8 ((rd_T49 l0 x17_1).f3.f1), .int .u8 0]) ?_ 5 _ rfl; (with_reducible repeat first | apply bn | apply bd | apply ba); refine blk_put (cs := #[.slice A394_0 ((rd_T49 l0 x17_1).f0).length c394_0, .slice A394_1 ((rd_T49 l0 x17_1).f1).length c394_1, .slice A394_2 ((rd_T49 l0 x17_1).f2).length c394_2, .int .u8 ((rd_T49 l0 x17_1).f3.f0), .int .u8 0, .int .u8 0]) ?_ 4 _ rfl; (with_reducible repeat first | apply bn | apply bd | apply ba); refine blk_put (cs := #[.slice A394_0 ((rd_T49 l0 x17_1).f0).length c394_0, .slice A394_1 ((rd_T49 l0 x17_1).f1).length c394_1, .slice A394_2 ((rd_T49 l0 x17_1).f2).length c394_2, .int .u8 0, .int .u8 0, .int .u8 0]) ?_ 3 _ rfl; (with_reducible repeat first | apply bn | apply bd | apply ba); refine blk_put (cs := #[.slice A394_0 ((rd_T49 l0 x17_1).f0).length c394_0, .slice A394_1 ((rd_T49 l0 x17_1).f1).length c394_1, .slice none 0 0, .int .u8 0, .int .u8 0, .int .u8 0]) ?_ 2 _ rfl; (with_reducible repeat first | apply bn | apply bd | apply ba); refine blk_put (cs := #[.slice A394_0 ((rd_T49 l0 x17_1).f0).length c394_0, .slice none 0 0, .slice none 0 0, .int .u8 0, .int .u8 0, .int .u8 0]) ?_ 1 _ rfl; (with_reducible repeat first | apply bn | apply bd | apply ba); refine blk_put (cs := #[.slice none 0 0, .slice none 0 0, .slice none 0 0, .int .u8 0, .int .u8 0, .int .u8 0]) ?_ 0 _ rfl; (with_reducible repeat first | apply bn | apply bd | apply ba); exact BK395.out)) : gb395 ≠ gb397)); have n6_ := asd ((by rw [hg]; exact Nat.ne_of_gt (blk_lt (g := gb395) (o := .cells #[.slice A394_0 ((rd_T49 l0 x17_1).f0).length c394_0, .slice A394_1 ((rd_T49 l0 x17_1).f1).length c394_1, .slice A394_2 ((rd_T49 l0 x17_1).f2).length c394_2, .int .u8 ((rd_T49 l0 x17_1).f3.f0), .int .u8 ((rd_T49 l0 x17_1).f3.f1), .int .u8 ((rd_T49 l0 x17_1).f3.f2)] 49 (0, 0)) (by (with_reducible repeat first | apply bn | apply bd | apply ba); refine blk_put (cs := #[.slice A394_0 ((rd_T49 l0 x17_1).f0).length c394_0, .slice A394_1 ((rd_T49 l0 x17_1).f1).length c394_1, .slice A394_2 ((rd_T49 l0 x17_1).f2).length c394_2, .int .u8 ((rd_T49 l0 x17_1).f3.f0), .int .u8 ((rd_T49 l0 x17_1).f3.f1), .int .u8 0]) ?_ 5 _ rfl; (with_reducible repeat first | apply bn | apply bd | apply ba); refine blk_put (cs := #[.slice A394_0 ((rd_T49 l0 x17_1).f0).length c394_0, .slice A394_1 ((rd_T49 l0 x17_1).f1).length c394_1, .slice A394_2 ((rd_T49 l0 x17_1).f2).length c394_2, .int .u8 ((rd_T49 l0 x17_1).f3.f0), .int .u8 0, .int .u8 0]) ?_ 4 _ rfl; (with_reducible repeat first | apply bn | apply bd | apply ba); refine blk_put (cs := #[.slice A394_0 ((rd_T49 l0 x17_1).f0).length c394_0, .slice A394_1 ((rd_T49 l0 x17_1).f1).length c394_1, .slice A394_2 ((rd_T49 l0 x17_1).f2).length c394_2, .int .u8 0, .int .u8 0, .int .u8 0]) ?_ 3 _ rfl; (with_reducible repeat first | apply bn | apply bd | apply ba); refine blk_put (cs := #[.slice A394_0 ((rd_T49 l0 x17_1).f0).length c394_0, .slice A394_1 ((rd_T49 l0 x17_1).f1).length c394_1, .slice none 0 0, .int .u8 0, .int .u8 0, .int .u8 0]) ?_ 2 _ rfl; (with_reducible repeat first | apply bn | apply bd | apply ba); refine blk_put (cs := #[.slice A394_0 ((rd_T49 l0 x17_1).f0).length c394_0, .slice none 0 0, .slice none 0 0, .int .u8 0, .int .u8 0, .int .u8 0]) ?_ 1 _ rfl; (with_reducible repeat first | apply bn | apply bd | apply ba); refine blk_put (cs := #[.slice none 0 0, .slice none 0 0, .slice none 0 0, .int .u8 0, .int .u8 0, .int .u8 0]) ?_ 0 _ rfl; (with_reducible repeat first | apply bn | apply bd | apply ba); exact BK395.out)) : gb397 ≠ gb395)); clear BK395; clear HB; have BK395 := n0_; have HB := n1_; have BK397 := n2_; have GW397 := n3_; have GE397 := n4_; have NB395_397 := n5_; have NB397_395 := n6_; clear n0_ n1_ n2_ n3_ n4_ n5_ n6_; clear hb hbox hg; have hnb21 := NB397_395.out; have hnc21 := NB395_397.out; have hcz22_0 : w20.cell? ⟨gb397, 0, none⟩ = some (.slice none 0 0) := (blk_cell BK397.out 0).trans rfl; have hcz22_1 : w20.cell? ⟨gb397, 1, none⟩ = some (.slice none 0 0) := (blk_cell BK397.out 1).trans rfl; have hcz22_2 : w20.cell? ⟨gb397, 2, none⟩ = some (.slice none 0 0) := (blk_cell BK397.out 2).trans rfl; have hcz22_3 : w20.cell? ⟨gb397, 3, none⟩ = some (.int .u8 0) := (blk_cell BK397.out 3).trans rfl; have hcz22_4 : w20.cell? ⟨gb397, 4, none⟩ = some (.int .u8 0) := (blk_cell BK397.out 4).trans rfl; have hcz22_5 : w20.cell? ⟨gb397, 5, none⟩ = some (.int .u8 0) := (blk_cell BK397.out 5).trans rfl; have hfz22_0 := blk_frozen BK397.out 0; have hfz22_1 := blk_frozen BK397.out 1; have hfz22_2 := blk_frozen BK397.out 2; have hfz22_3 := blk_frozen BK397.out 3; have hfz22_4 := blk_frozen BK397.out 4; have hfz22_5 := blk_frozen BK397.out 5; have hcz23_0 : w20.cell? ⟨gb395, 0, none⟩ = some (.slice A394_0 ((rd_T49 l0 x17_1).f0).length c394_0) := (blk_cell BK395.out 0).trans rfl; have hcz23_1 : w20.cell? ⟨gb395, 1, none⟩ = some (.slice A394_1 ((rd_T49 l0 x17_1).f1).length c394_1) := (blk_cell BK395.out 1).trans rfl; have hcz23_2 : w20.cell? ⟨gb395, 2, none⟩ = some (.slice A394_2 ((rd_T49 l0 x17_1).f2).length c394_2) := (blk_cell BK395.out 2).trans rfl; have hcz23_3 : w20.cell? ⟨gb395, 3, none⟩ = some (.int .u8 ((rd_T49 l0 x17_1).f3.f0)) := (blk_cell BK395.out 3).trans rfl; have hcz23_4 : w20.cell? ⟨gb395, 4, none⟩ = some (.int .u8 ((rd_T49 l0 x17_1).f3.f1)) := (blk_cell BK395.out 4).trans rfl; have hcz23_5 : w20.cell? ⟨gb395, 5, none⟩ = some (.int .u8 ((rd_T49 l0 x17_1).f3.f2)) := (blk_cell BK395.out 5).trans rfl; have hfz23_0 := blk_frozen BK395.out 0; have hfz23_1 := blk_frozen BK395.out 1; have hfz23_2 := blk_frozen BK395.out 2; have hfz23_3 := blk_frozen BK395.out 3; have hfz23_4 := blk_frozen BK395.out 4; have hfz23_5 := blk_frozen BK395.out 5) | (go_at_call 63; (with_reducible refine (conf_same.calls k1 _ _ ((rd_T49 l0 x17_1).f0) _ _ ((rd_T49 l0 x17_1).f1) _ _ ((rd_T49 l0 x17_1).f2) ((rd_T49 l0 x17_1).f3.f0) ((rd_T49 l0 x17_1).f3.f1) ((rd_T49 l0 x17_1).f3.f2) _ _ ((rd_T49 l1 x17_1).f0) _ _ ((rd_T49 l1 x17_1).f1) _ _ ((rd_T49 l1 x17_1).f2) ((rd_T49 l1 x17_1).f3.f0) ((rd_T49 l1 x17_1).f3.f1) ((rd_T49 l1 x17_1).f3.f2) false _ ?side1 ?side2 ?side3 ?side4 ?side5 ?side6 ?side7 ?side8 ?side9 ?side10 ?side11 ?side12 A9.out).mono ?_); (case side1 => exact Kd.C_below HR394_0.out (by repeat (first | (with_reducible first | exact HB.out | apply wa | apply wn | apply wd | refine ws ?_ GE395.out | refine ws ?_ GE397.out) | exact HB.out))); (case side2 => exact HC394_0.out); (case side3 => exact Kd.C_below HR394_1.out (by repeat (first | (with_reducible first | exact HB.out | apply wa | apply wn | apply wd | refine ws ?_ GE395.out | refine ws ?_ GE397.out) | exact HB.out))); (case side4 => exact HC394_1.out); (case side5 => exact Kd.C_below HR394_2.out (by repeat (first | (with_reducible first | exact HB.out | apply wa | apply wn | apply wd | refine ws ?_ GE395.out | refine ws ?_ GE397.out) | exact HB.out))); (case side6 => exact HC394_2.out); (case side7 => exact Kd.C_below HR396_0.out (by repeat (first | (with_reducible first | exact HB.out | apply wa | apply wn | apply wd | refine ws ?_ GE395.out | refine ws ?_ GE397.out) | exact HB.out))); (case side8 => exact HC396_0.out); (case side9 => exact Kd.C_below HR396_1.out (by repeat (first | (with_reducible first | exact HB.out | apply wa | apply wn | apply wd | refine ws ?_ GE395.out | refine ws ?_ GE397.out) | exact HB.out))); (case side10 => exact HC396_1.out); (case side11 => exact Kd.C_below HR396_2.out (by repeat (first | (with_reducible first | exact HB.out | apply wa | apply wn | apply wd | refine ws ?_ GE395.out | refine ws ?_ GE397.out) | exact HB.out))); (case side12 => exact HC396_2.out); rintro e w24 ⟨rfl, hb⟩; have n0_ := asd (blk_below (g := gb395) (o := .cells #[.slice A394_0 ((rd_T49 l0 x17_1).f0).length c394_0, .slice A394_1 ((rd_T49 l0 x17_1).f1).length c394_1, .slice A394_2 ((rd_T49 l0 x17_1).f2).length c394_2, .int .u8 ((rd_T49 l0 x17_1).f3.f0), .int .u8 ((rd_T49 l0 x17_1).f3.f1), .int .u8 ((rd_T49 l0 x17_1).f3.f2)] 49 (0, 0)) (by (with_reducible repeat first | apply bn | apply bd | apply ba); refine blk_far ?_ NB395_397.out _; (with_reducible repeat first | apply bn | apply bd | apply ba); refine blk_far ?_ NB395_397.out _; (with_reducible repeat first | apply bn | apply bd | apply ba); refine blk_far ?_ NB395_397.out _; (with_reducible repeat first | apply bn | apply bd | apply ba); refine blk_far ?_ NB395_397.out _; (with_reducible repeat first | apply bn | apply bd | apply ba); refine blk_far ?_ NB395_397.out _; (with_reducible repeat first | apply bn | apply bd | apply ba); refine blk_far ?_ NB395_397.out _; (with_reducible repeat first | apply bn | apply bd | apply ba); exact BK395.out) hb); have n1_ := asd (blk_below (g := gb397) (o := .cells #[.slice A396_0 ((rd_T49 l1 x17_1).f0).length c396_0, .slice A396_1 ((rd_T49 l1 x17_1).f1).length c396_1, .slice A396_2 ((rd_T49 l1 x17_1).f2).length c396_2, .int .u8 ((rd_T49 l1 x17_1).f3.f0), .int .u8 ((rd_T49 l1 x17_1).f3.f1), .int .u8 ((rd_T49 l1 x17_1).f3.f2)] 49 (0, 0)) (by (with_reducible repeat first | apply bn | apply bd | apply ba); refine blk_put (cs := #[.slice A396_0 ((rd_T49 l1 x17_1).f0).length c396_0, .slice A396_1 ((rd_T49 l1 x17_1).f1).length c396_1, .slice A396_2 ((rd_T49 l1 x17_1).f2).length c396_2, .int .u8 ((rd_T49 l1 x17_1).f3.f0), .int .u8 ((rd_T49 l1 x17_1).f3.f1), .int .u8 0]) ?_ 5 _ rfl; (with_reducible repeat first | apply bn | apply bd | apply ba); refine blk_put (cs := #[.slice A396_0 ((rd_T49 l1 x17_1).f0).length c396_0, .slice A396_1 ((rd_T49 l1 x17_1).f1).length c396_1, .slice A396_2 ((rd_T49 l1 x17_1).f2).length c396_2, .int .u8 ((rd_T49 l1 x17_1).f3.f0), .int .u8 0, .int .u8 0]) ?_ 4 _ rfl; (with_reducible repeat first | apply bn | apply bd | apply ba); refine blk_put (cs := #[.slice A396_0 ((rd_T49 l1 x17_1).f0).length c396_0, .slice A396_1 ((rd_T49 l1 x17_1).f1).length c396_1, .slice A396_2 ((rd_T49 l1 x17_1).f2).length c396_2, .int .u8 0, .int .u8 0, .int .u8 0]) ?_ 3 _ rfl; (with_reducible repeat first | apply bn | apply bd | apply ba); refine blk_put (cs := #[.slice A396_0 ((rd_T49 l1 x17_1).f0).length c396_0, .slice A396_1 ((rd_T49 l1 x17_1).f1).length c396_1, .slice none 0 0, .int .u8 0, .int .u8 0, .int .u8 0]) ?_ 2 _ rfl; (with_reducible repeat first | apply bn | apply bd | apply ba); refine blk_put (cs := #[.slice A396_0 ((rd_T49 l1 x17_1).f0).length c396_0, .slice none 0 0, .slice none 0 0, .int .u8 0, .int .u8 0, .int .u8 0]) ?_ 1 _ rfl; (with_reducible repeat first | apply bn | apply bd | apply ba); refine blk_put (cs := #[.slice none 0 0, .slice none 0 0, .slice none 0 0, .int .u8 0, .int .u8 0, .int .u8 0]) ?_ 0 _ rfl; (with_reducible repeat first | apply bn | apply bd | apply ba); exact BK397.out) hb); have n2_ := asd (below_step (by repeat (first | (with_reducible first | exact HB.out | apply wa | apply wn | apply wd | refine ws ?_ GE395.out | refine ws ?_ GE397.out) | exact HB.out)) hb); clear BK395; clear BK397; clear HB; have BK395 := n0_; have BK397 := n1_; have HB := n2_; clear n0_ n1_ n2_; (try clear hb); (try clear hb2); (try clear hk); (try clear hi)))
         go_ret
         exact ⟨by first | rfl | (simp [*] <;> rfl), by repeat (first | (with_reducible first | exact HB.out | apply wa | apply wn | apply wd | refine ws ?_ GE395.out | refine ws ?_ GE397.out) | exact HB.out)⟩
       ·rw [if_neg c8] at H
        exact absurd H (by simp)
      ·rw [if_neg c7] at H
       exact absurd H (by simp)
     ·rw [if_neg c6] at H
      exact absurd H (by simp)
    ·rw [if_neg c5] at H
     have c5b0 : decide (x17_1 < (l0.length : Int)) = false := decide_eq_false c5
     clear c5
     obtain rfl := Option.some.inj H
     go_wp2
     go_ret
     exact ⟨by first | rfl | (simp [*] <;> rfl), by repeat (first | (with_reducible first | exact HB.out | apply wa | apply wn | apply wd) | exact HB.out)⟩
 ·rw [if_neg c4] at H
  have c4b0 : ((l0.length : Int) == (l1.length : Int)) = false := beq_eq_false_iff_ne.mpr c4
  have c4b1 : ((l0.length : Int) != (l1.length : Int)) = true := bne_iff_ne.mpr c4
  have c4b2 : (l0.length == l1.length) = false := by first | simpa using c4 | (simp at c4 ⊢; omega)
  obtain rfl := Option.some.inj H
  go_enter Try.func62, Try.ntmps62
  go_wp2
  go_ret
  exact ⟨by first | rfl | (simp [*] <;> rfl), by repeat (first | (with_reducible first | exact HB.out | apply wa | apply wn | apply wd) | exact HB.out)⟩
end Go.Proofs.Ytmjhnmdmopmfjaa.Fn
namespace Go.Proofs.Ytmjhnmdmopmfjaa.Fn
open Go.RowKit Go.Proofs.YtmjhnmdmopmfjaaW.PrintWords Go.Proofs.YtmjhnmdmopmfjaaW.PrintLast Go.Proofs.YtmjhnmdmopmfjaaW.PrintMore
attribute [local go_sem] max2_int min2_int max_two min_two max_three min_three max_four min_four
set_option linter.unusedVariables false
set_option linter.unusedSimpArgs false
theorem eqA44 (d : Nat) (w : World) (x0 y0 : Bool) (x1 y1 : Int) (x2 y2 : Int) (x3 y3 : Int) :
  (Op.equalIn (d + 2) 44 (.agg #[.bool x0, .int .i64 x1, .int .i64 x2, .int .i64 x3]) (.agg #[.bool y0, .int .i64 y1, .int .i64 y2, .int .i64 y3])).run Try.prog w = .ok (x0 == y0 && (x1 == y1 && (x2 == y2 && (x3 == y3)))) w := by
 refine eqA_of Try.underlying44 (by kernel_rfl) ?_
 refine eqf_cons (by rfl) (by go_simp; rfl) (by go_simp; rfl) (by go_simp) ?_
 refine eqf_cons (by rfl) (by go_simp; rfl) (by go_simp; rfl) (by go_simp) ?_
 refine eqf_cons (by rfl) (by go_simp; rfl) (by go_simp; rfl) (by go_simp) ?_
 exact eqf_last (by rfl) (by go_simp; rfl) (by go_simp; rfl) (by go_simp)
end Go.Proofs.Ytmjhnmdmopmfjaa.Fn
namespace Go.Proofs.Ytmjhnmdmopmfjaa.Fn
open Go.RowKit Go.Proofs.YtmjhnmdmopmfjaaW.PrintWords Go.Proofs.YtmjhnmdmopmfjaaW.PrintLast Go.Proofs.YtmjhnmdmopmfjaaW.PrintMore
attribute [local go_sem] max2_int min2_int max_two min_two max_three min_three max_four min_four
set_option linter.unusedVariables false
set_option linter.unusedSimpArgs false
attribute [local go_sem high] eqA44
def conf_Channel_64.l0 : Nat → List (S44) → List (S44) → Int → Int → Option (Bool)
 | 0, _, _, _, _ => none
 | k + 1, x0, x1, x12, x13 => if x13 < x12 then (if 0 ≤ x13 then (if x13 < (x0.length : Int) then (if x13 < (x1.length : Int) then (if (!(((rd_T44 x0 x13).f0) == ((rd_T44 x1 x13).f0)) || (!(((rd_T44 x0 x13).f1) == ((rd_T44 x1 x13).f1)) || (!(((rd_T44 x0 x13).f2) == ((rd_T44 x1 x13).f2)) || (!(((rd_T44 x0 x13).f3) == ((rd_T44 x1 x13).f3)))))) = true then (some false) else (conf_Channel_64.l0 k x0 x1 x12 (wrap64 (x13 + 1)))) else (none)) else (none)) else (none)) else (some true)
def conf_Channel_64.f (k : Nat) (l0 : List (S44)) (l1 : List (S44)) : Option (Bool) := if (l0.length : Int) = (l1.length : Int) then (conf_Channel_64.l0 k l0 l1 (l0.length : Int) 0) else (some false)
set_option maxHeartbeats 8000000 in
set_option maxRecDepth 100000 in
theorem conf_Channel_64.calls (k : Nat) (A0 : Option Addr) (c0 : Nat) (l0 : List (S44)) (A1 : Option Addr) (c1 : Nat) (l1 : List (S44)) (r : Bool) (w : World) (hr0 : Kd.C k44 w A0 l0.length l0) (hc0 : l0.length ≤ c0) (hr1 : Kd.C k44 w A1 l1.length l1) (hc1 : l1.length ≤ c1) (h : conf_Channel_64.f k l0 l1 = some r) :
  Calls Try.prog 64 #[.slice A0 l0.length c0, .slice A1 l1.length c1] w fun e w' => e = .returned (.bool r) ∧ Drawn0 w w' := by
 have hu44 := Try.underlying44
 have HR0 := asd hr0
 have HC0 := asd hc0
 clear hr0 hc0
 have HR1 := asd hr1
 have HC1 := asd hc1
 clear hr1 hc1
 have H : (if (l0.length : Int) = (l1.length : Int) then (conf_Channel_64.l0 k l0 l1 (l0.length : Int) 0) else (some false)) = some r := h
 clear h
 by_cases c3 : (l0.length : Int) = (l1.length : Int)
 ·rw [if_pos c3] at H
  have c3b0 : ((l0.length : Int) == (l1.length : Int)) = true := beq_iff_eq.mpr c3
  have c3b1 : ((l0.length : Int) != (l1.length : Int)) = false := bne_eq_false_iff_eq.mpr c3
  have c3b2 : (l0.length == l1.length) = true := by first | simpa using c3 | (simp at c3 ⊢; omega)
  clear c3
  have H' := asd H
  clear H
  go_enter Try.func64, Try.ntmps64
  go_wp2
  repeat (go_quiet (fail); try go_wp2)
  go_loopg [13] k (fun kq v13 w' => ∃ (x13_1 : Int), v13 = .int .i64 x13_1 ∧ Aside0 (conf_Channel_64.l0 kq l0 l1 (l0.length : Int) x13_1 = some r) ∧ Aside0 (kq ≤ k) ∧ Drawn0 w w')
  case atStart => exact ⟨(0), (by first | rfl | (simp; done) | (simp [*]; done)), H', ⟨Nat.le_refl _⟩, by repeat (first | exact Drawn0.refl _ | apply Drawn0.step)⟩
  case round =>
   clear H'
   try clear c1
   try clear p2
   try clear c3
   try clear c3b0
   try clear c3b1
   try clear c3b2
   obtain ⟨x13_1, rfl, HA, HK1, ⟨m1, rfl⟩⟩ := hrel
   cases gk with
   | zero => exact absurd HA.out (by simp [conf_Channel_64.l0])
   | succ k1 =>
    have H := HA.out
    clear HA
    simp only [conf_Channel_64.l0] at H
    by_cases c4 : x13_1 < (l0.length : Int)
    ·rw [if_pos c4] at H
     have c4b0 : decide (x13_1 < (l0.length : Int)) = true := decide_eq_true c4
     clear c4
     by_cases c5 : 0 ≤ x13_1
     ·rw [if_pos c5] at H
      have c5b0 : decide (0 ≤ x13_1) = true := decide_eq_true c5
      clear c5
      by_cases c6 : x13_1 < (l0.length : Int)
      ·rw [if_pos c6] at H
       have c6b0 : decide (x13_1 < (l0.length : Int)) = true := decide_eq_true c6
       clear c6
       by_cases c7 : x13_1 < (l1.length : Int)
       ·rw [if_pos c7] at H
        have c7b0 : decide (x13_1 < (l1.length : Int)) = true := decide_eq_true c7
        clear c7
        by_cases c8 : (!(((rd_T44 l0 x13_1).f0) == ((rd_T44 l1 x13_1).f0)) || (!(((rd_T44 l0 x13_1).f1) == ((rd_T44 l1 x13_1).f1)) || (!(((rd_T44 l0 x13_1).f2) == ((rd_T44 l1 x13_1).f2)) || (!(((rd_T44 l0 x13_1).f3) == ((rd_T44 l1 x13_1).f3)))))) = true
        ·rw [if_pos c8] at H
         have c8b0 : (!(((rd_T44 l0 x13_1).f0) == ((rd_T44 l1 x13_1).f0)) || (!(((rd_T44 l0 x13_1).f1) == ((rd_T44 l1 x13_1).f1)) || (!(((rd_T44 l0 x13_1).f2) == ((rd_T44 l1 x13_1).f2)) || (!(((rd_T44 l0 x13_1).f3) == ((rd_T44 l1 x13_1).f3)))))) = true := c8
         clear c8
         obtain rfl := Option.some.inj H
         have p399 : 0 ≤ (x13_1 : Int) := of_decide_eq_true (by assumption)
         have q399 : x13_1 < (l0.length : Int) := of_decide_eq_true (by assumption)
         obtain ⟨ad399, e399, hx399_0, hx399_1, hx399_2, hx399_3⟩ := at_T44 HR0.out x13_1 p399 q399
         cases e399
         replace p399 := eq_true p399
         replace q399 := eq_true q399
         have p400 : 0 ≤ (x13_1 : Int) := of_decide_eq_true (by assumption)
         have q400 : x13_1 < (l1.length : Int) := of_decide_eq_true (by assumption)
         obtain ⟨ad400, e400, hx400_0, hx400_1, hx400_2, hx400_3⟩ := at_T44 HR1.out x13_1 p400 q400
         cases e400
         replace p400 := eq_true p400
         replace q400 := eq_true q400
         go_wp2
         repeat (go_quiet (fail); try go_wp2)
         go_ret
         exact ⟨by first | rfl | (simp; done) | (simp [*]; done), by repeat (first | exact Drawn0.refl _ | apply Drawn0.step)⟩
        ·rw [if_neg c8] at H
         have c8b0 : (!(((rd_T44 l0 x13_1).f0) == ((rd_T44 l1 x13_1).f0)) || (!(((rd_T44 l0 x13_1).f1) == ((rd_T44 l1 x13_1).f1)) || (!(((rd_T44 l0 x13_1).f2) == ((rd_T44 l1 x13_1).f2)) || (!(((rd_T44 l0 x13_1).f3) == ((rd_T44 l1 x13_1).f3)))))) = false := by simpa using c8
         clear c8
         have H' := asd H
         clear H
         have p399 : 0 ≤ (x13_1 : Int) := of_decide_eq_true (by assumption)
         have q399 : x13_1 < (l0.length : Int) := of_decide_eq_true (by assumption)
         obtain ⟨ad399, e399, hx399_0, hx399_1, hx399_2, hx399_3⟩ := at_T44 HR0.out x13_1 p399 q399
         cases e399
         replace p399 := eq_true p399
         replace q399 := eq_true q399
         have p400 : 0 ≤ (x13_1 : Int) := of_decide_eq_true (by assumption)
         have q400 : x13_1 < (l1.length : Int) := of_decide_eq_true (by assumption)
         obtain ⟨ad400, e400, hx400_0, hx400_1, hx400_2, hx400_3⟩ := at_T44 HR1.out x13_1 p400 q400
         cases e400
         replace p400 := eq_true p400
         replace q400 := eq_true q400
         go_wp2
         repeat (go_quiet (fail); try go_wp2)
         go_roundg k1
         case measure => have := HK1.out; omega
         case rel => exact ⟨(wrap64 (x13_1 + 1)), (by first | rfl | (simp; done) | (simp [*]; done)), H', ⟨by have := HK1.out; omega⟩, by repeat (first | exact Drawn0.refl _ | apply Drawn0.step)⟩
       ·rw [if_neg c7] at H
        exact absurd H (by simp)
      ·rw [if_neg c6] at H
       exact absurd H (by simp)
     ·rw [if_neg c5] at H
      exact absurd H (by simp)
    ·rw [if_neg c4] at H
     have c4b0 : decide (x13_1 < (l0.length : Int)) = false := decide_eq_false c4
     clear c4
     obtain rfl := Option.some.inj H
     go_wp2
     repeat (go_quiet (fail); try go_wp2)
     go_ret
     exact ⟨by first | rfl | (simp; done) | (simp [*]; done), by repeat (first | exact Drawn0.refl _ | apply Drawn0.step)⟩
 ·rw [if_neg c3] at H
  have c3b0 : ((l0.length : Int) == (l1.length : Int)) = false := beq_eq_false_iff_ne.mpr c3
  have c3b1 : ((l0.length : Int) != (l1.length : Int)) = true := bne_iff_ne.mpr c3
  have c3b2 : (l0.length == l1.length) = false := by first | simpa using c3 | (simp at c3 ⊢; omega)
  obtain rfl := Option.some.inj H
  go_enter Try.func64, Try.ntmps64
  go_wp2
  repeat (go_quiet (fail); try go_wp2)
  go_ret
  exact ⟨by first | rfl | (simp; done) | (simp [*]; done), by repeat (first | exact Drawn0.refl _ | apply Drawn0.step)⟩
end Go.Proofs.Ytmjhnmdmopmfjaa.Fn
namespace Go.Proofs.Ytmjhnmdmopmfjaa.Fn
open Go.RowKit Go.Proofs.YtmjhnmdmopmfjaaW.PrintWords Go.Proofs.YtmjhnmdmopmfjaaW.PrintLast Go.Proofs.YtmjhnmdmopmfjaaW.PrintMore
attribute [local go_sem] max2_int min2_int max_two min_two max_three min_three max_four min_four
set_option linter.unusedVariables false
set_option linter.unusedSimpArgs false
def conf_Same.f (k : Nat) (a0_0 : Int) (a0_1 : Int) (l0_2 : List (S42)) (l0_3 : List (S49)) (l0_4 : List (S44)) (a1_0 : Int) (a1_1 : Int) (l1_2 : List (S42)) (l1_3 : List (S49)) (l1_4 : List (S44)) : Option (Bool) := if a0_0 = a1_0 then (if a0_1 = a1_1 then ((conf_Window_61.f k l0_2 l1_2).bind fun t403 => (if t403 = true then ((conf_Part_62.f k l0_3 l1_3).bind fun t404 => (if t404 = true then ((conf_Channel_64.f k l0_4 l1_4).bind fun t405 => (some t405)) else (some false))) else (some false))) else (some false)) else (some false)
set_option maxHeartbeats 8000000 in
set_option maxRecDepth 100000 in
theorem conf_Same.calls (k : Nat) (a0_0 : Int) (a0_1 : Int) (A0_2 : Option Addr) (c0_2 : Nat) (l0_2 : List (S42)) (A0_3 : Option Addr) (c0_3 : Nat) (l0_3 : List (S49)) (A0_4 : Option Addr) (c0_4 : Nat) (l0_4 : List (S44)) (a1_0 : Int) (a1_1 : Int) (A1_2 : Option Addr) (c1_2 : Nat) (l1_2 : List (S42)) (A1_3 : Option Addr) (c1_3 : Nat) (l1_3 : List (S49)) (A1_4 : Option Addr) (c1_4 : Nat) (l1_4 : List (S44)) (r : Bool) (w : World) (hr0_2 : Kd.C k42 w A0_2 l0_2.length l0_2) (hc0_2 : l0_2.length ≤ c0_2) (hr0_3 : Kd.C k49 w A0_3 l0_3.length l0_3) (hc0_3 : l0_3.length ≤ c0_3) (hr0_4 : Kd.C k44 w A0_4 l0_4.length l0_4) (hc0_4 : l0_4.length ≤ c0_4) (hr1_2 : Kd.C k42 w A1_2 l1_2.length l1_2) (hc1_2 : l1_2.length ≤ c1_2) (hr1_3 : Kd.C k49 w A1_3 l1_3.length l1_3) (hc1_3 : l1_3.length ≤ c1_3) (hr1_4 : Kd.C k44 w A1_4 l1_4.length l1_4) (hc1_4 : l1_4.length ≤ c1_4) (h : conf_Same.f k a0_0 a0_1 l0_2 l0_3 l0_4 a1_0 a1_1 l1_2 l1_3 l1_4 = some r) :
  Calls Try.prog 34 #[.agg #[.int .i64 a0_0, .int .i64 a0_1, .slice A0_2 l0_2.length c0_2, .slice A0_3 l0_3.length c0_3, .slice A0_4 l0_4.length c0_4], .agg #[.int .i64 a1_0, .int .i64 a1_1, .slice A1_2 l1_2.length c1_2, .slice A1_3 l1_3.length c1_3, .slice A1_4 l1_4.length c1_4]] w fun e w' => e = .returned (.bool r) ∧ Below w.heap.size w w' := by
 have hu34 := Try.underlying34
 have HR0_2 := asd hr0_2
 have HC0_2 := asd hc0_2
 clear hr0_2 hc0_2
 have HR0_3 := asd hr0_3
 have HC0_3 := asd hc0_3
 clear hr0_3 hc0_3
 have HR0_4 := asd hr0_4
 have HC0_4 := asd hc0_4
 clear hr0_4 hc0_4
 have HR1_2 := asd hr1_2
 have HC1_2 := asd hc1_2
 clear hr1_2 hc1_2
 have HR1_3 := asd hr1_3
 have HC1_3 := asd hc1_3
 clear hr1_3 hc1_3
 have HR1_4 := asd hr1_4
 have HC1_4 := asd hc1_4
 clear hr1_4 hc1_4
 have HB := asd (Below.refl w.heap.size w)
 have H : (if a0_0 = a1_0 then (if a0_1 = a1_1 then ((conf_Window_61.f k l0_2 l1_2).bind fun t403 => (if t403 = true then ((conf_Part_62.f k l0_3 l1_3).bind fun t404 => (if t404 = true then ((conf_Channel_64.f k l0_4 l1_4).bind fun t405 => (some t405)) else (some false))) else (some false))) else (some false)) else (some false)) = some r := h
 clear h
 by_cases c3 : a0_0 = a1_0
 ·rw [if_pos c3] at H
  have c3b0 : (a0_0 == a1_0) = true := beq_iff_eq.mpr c3
  have c3b1 : (a0_0 != a1_0) = false := bne_eq_false_iff_eq.mpr c3
  clear c3
  by_cases c4 : a0_1 = a1_1
  ·rw [if_pos c4] at H
   have c4b0 : (a0_1 == a1_1) = true := beq_iff_eq.mpr c4
   have c4b1 : (a0_1 != a1_1) = false := bne_eq_false_iff_eq.mpr c4
   clear c4
   replace H := Option.bind_eq_some_iff.mp H
   obtain ⟨t403, A50, H⟩ := H
   replace H : (if t403 = true then ((conf_Part_62.f k l0_3 l1_3).bind fun t404 => (if t404 = true then ((conf_Channel_64.f k l0_4 l1_4).bind fun t405 => (some t405)) else (some false))) else (some false)) = some r := H
   have A5 := asd A50
   clear A50
   by_cases c6 : t403 = true
   ·subst c6
    have H1 : ((conf_Part_62.f k l0_3 l1_3).bind fun t404 => (if t404 = true then ((conf_Channel_64.f k l0_4 l1_4).bind fun t405 => (some t405)) else (some false))) = some r := by rw [if_pos rfl] at H; exact H
    clear H
    have H := H1
    clear H1
    replace H := Option.bind_eq_some_iff.mp H
    obtain ⟨t404, A70, H⟩ := H
    replace H : (if t404 = true then ((conf_Channel_64.f k l0_4 l1_4).bind fun t405 => (some t405)) else (some false)) = some r := H
    have A7 := asd A70
    clear A70
    by_cases c8 : t404 = true
    ·subst c8
     have H1 : ((conf_Channel_64.f k l0_4 l1_4).bind fun t405 => (some t405)) = some r := by rw [if_pos rfl] at H; exact H
     clear H
     have H := H1
     clear H1
     replace H := Option.bind_eq_some_iff.mp H
     obtain ⟨t405, A90, H⟩ := H
     replace H : (some t405) = some r := H
     have A9 := asd A90
     clear A90
     obtain rfl := Option.some.inj H
     go_enter Try.func34, Try.ntmps34
     go_wp2_with (first | ((with_reducible refine gate_dst (N := 2) rfl ?_); refine box_event ?hg (N := 2) ?hd (cs := #[.int .i64 a0_0, .int .i64 a0_1, .slice A0_2 l0_2.length c0_2, .slice A0_3 l0_3.length c0_3, .slice A0_4 l0_4.length c0_4]) (t := 34) ?hr ?_; (case hd => rfl); (case hg => rfl); (case hr => first | (go_simp; done) | (go_simp; rfl)); intro gb401 hg w10 hbox hb; have n0_ := asd (below_step (by repeat (first | (with_reducible first | exact HB.out | apply wa | apply wn | apply wd) | exact HB.out)) hb); have n1_ := asd (hbox); have n2_ := asd ((by rw [hg]; exact (below_size (by repeat (first | (with_reducible first | exact HB.out | apply wa | apply wn | apply wd) | exact HB.out))) : w.heap.size ≤ gb401)); have n3_ := asd ((by rw [hg]; exact (below_size (by repeat (first | (with_reducible first | exact HB.out | apply wa | apply wn | apply wd) | exact HB.out))) : w.heap.size ≤ gb401)); clear HB; have HB := n0_; have BK401 := n1_; have GW401 := n2_; have GE401 := n3_; clear n0_ n1_ n2_ n3_; clear hb hbox hg) | ((with_reducible refine gate_dst (N := 3) rfl ?_); refine box_event ?hg (N := 3) ?hd (cs := #[.int .i64 a1_0, .int .i64 a1_1, .slice A1_2 l1_2.length c1_2, .slice A1_3 l1_3.length c1_3, .slice A1_4 l1_4.length c1_4]) (t := 34) ?hr ?_; (case hd => rfl); (case hg => rfl); (case hr => first | (go_simp; done) | (go_simp; rfl)); intro gb402 hg w11 hbox hb; have n0_ := asd (blk_below (g := gb401) (o := .cells #[.int .i64 a0_0, .int .i64 a0_1, .slice A0_2 l0_2.length c0_2, .slice A0_3 l0_3.length c0_3, .slice A0_4 l0_4.length c0_4] 34 (0, 0)) (by (with_reducible repeat first | apply bn | apply bd | apply ba); exact BK401.out) hb); have n1_ := asd (below_step (by repeat (first | (with_reducible first | exact HB.out | apply wa | apply wn | apply wd | refine ws ?_ GE401.out) | exact HB.out)) hb); have n2_ := asd (hbox); have n3_ := asd ((by rw [hg]; exact (below_size (by repeat (first | (with_reducible first | exact HB.out | apply wa | apply wn | apply wd | refine ws ?_ GE401.out) | exact HB.out))) : w.heap.size ≤ gb402)); have n4_ := asd ((by rw [hg]; exact (below_size (by repeat (first | (with_reducible first | exact HB.out | apply wa | apply wn | apply wd | refine ws ?_ GE401.out) | exact HB.out))) : w.heap.size ≤ gb402)); have n5_ := asd ((by rw [hg]; exact Nat.ne_of_lt (blk_lt (g := gb401) (o := .cells #[.int .i64 a0_0, .int .i64 a0_1, .slice A0_2 l0_2.length c0_2, .slice A0_3 l0_3.length c0_3, .slice A0_4 l0_4.length c0_4] 34 (0, 0)) (by (with_reducible repeat first | apply bn | apply bd | apply ba); exact BK401.out)) : gb401 ≠ gb402)); have n6_ := asd ((by rw [hg]; exact Nat.ne_of_gt (blk_lt (g := gb401) (o := .cells #[.int .i64 a0_0, .int .i64 a0_1, .slice A0_2 l0_2.length c0_2, .slice A0_3 l0_3.length c0_3, .slice A0_4 l0_4.length c0_4] 34 (0, 0)) (by (with_reducible repeat first | apply bn | apply bd | apply ba); exact BK401.out)) : gb402 ≠ gb401)); clear BK401; clear HB; have BK401 := n0_; have HB := n1_; have BK402 := n2_; have GW402 := n3_; have GE402 := n4_; have NB401_402 := n5_; have NB402_401 := n6_; clear n0_ n1_ n2_ n3_ n4_ n5_ n6_; clear hb hbox hg; have hnb12 := NB401_402.out; have hnc12 := NB402_401.out; have hcz13_0 : w11.cell? ⟨gb401, 0, none⟩ = some (.int .i64 a0_0) := (blk_cell BK401.out 0).trans rfl; have hcz13_1 : w11.cell? ⟨gb401, 1, none⟩ = some (.int .i64 a0_1) := (blk_cell BK401.out 1).trans rfl; have hcz13_2 : w11.cell? ⟨gb401, 2, none⟩ = some (.slice A0_2 l0_2.length c0_2) := (blk_cell BK401.out 2).trans rfl; have hcz13_3 : w11.cell? ⟨gb401, 3, none⟩ = some (.slice A0_3 l0_3.length c0_3) := (blk_cell BK401.out 3).trans rfl; have hcz13_4 : w11.cell? ⟨gb401, 4, none⟩ = some (.slice A0_4 l0_4.length c0_4) := (blk_cell BK401.out 4).trans rfl; have hfz13_0 := blk_frozen BK401.out 0; have hfz13_1 := blk_frozen BK401.out 1; have hfz13_2 := blk_frozen BK401.out 2; have hfz13_3 := blk_frozen BK401.out 3; have hfz13_4 := blk_frozen BK401.out 4; have hcz14_0 : w11.cell? ⟨gb402, 0, none⟩ = some (.int .i64 a1_0) := (blk_cell BK402.out 0).trans rfl; have hcz14_1 : w11.cell? ⟨gb402, 1, none⟩ = some (.int .i64 a1_1) := (blk_cell BK402.out 1).trans rfl; have hcz14_2 : w11.cell? ⟨gb402, 2, none⟩ = some (.slice A1_2 l1_2.length c1_2) := (blk_cell BK402.out 2).trans rfl; have hcz14_3 : w11.cell? ⟨gb402, 3, none⟩ = some (.slice A1_3 l1_3.length c1_3) := (blk_cell BK402.out 3).trans rfl; have hcz14_4 : w11.cell? ⟨gb402, 4, none⟩ = some (.slice A1_4 l1_4.length c1_4) := (blk_cell BK402.out 4).trans rfl; have hfz14_0 := blk_frozen BK402.out 0; have hfz14_1 := blk_frozen BK402.out 1; have hfz14_2 := blk_frozen BK402.out 2; have hfz14_3 := blk_frozen BK402.out 3; have hfz14_4 := blk_frozen BK402.out 4) | (go_at_call 61; (with_reducible refine (conf_Window_61.calls k _ _ l0_2 _ _ l1_2 true _ ?side1 ?side2 ?side3 ?side4 A5.out).mono ?_); (case side1 => repeat (first | exact (Kd.C_below HR0_2.out HB.out) | (with_reducible refine Kd.C_alloc ?_ _) | (with_reducible refine Kd.C_drewN ?_ _) | (with_reducible refine Kd.C_drew ?_))); (case side2 => exact HC0_2.out); (case side3 => repeat (first | exact (Kd.C_below HR1_2.out HB.out) | (with_reducible refine Kd.C_alloc ?_ _) | (with_reducible refine Kd.C_drewN ?_ _) | (with_reducible refine Kd.C_drew ?_))); (case side4 => exact HC1_2.out); rintro e w' ⟨rfl, ⟨nd, rfl⟩⟩) | (go_at_call 62; (with_reducible refine (conf_Part_62.calls k _ _ l0_3 _ _ l1_3  true _ ?side1 ?side2 ?side3 ?side4 A7.out).mono ?_); (case side1 => repeat (first | exact (Kd.C_below HR0_3.out (by repeat (first | (with_reducible first | exact HB.out | apply wa | apply wn | apply wd | refine ws ?_ GE401.out | refine ws ?_ GE402.out) | exact HB.out))) | (with_reducible refine Kd.C_alloc ?_ _) | (with_reducible refine Kd.C_drewN ?_ _) | (with_reducible refine Kd.C_drew ?_))); (case side2 => exact HC0_3.out); (case side3 => repeat (first | exact (Kd.C_below HR1_3.out (by repeat (first | (with_reducible first | exact HB.out | apply wa | apply wn | apply wd | refine ws ?_ GE401.out | refine ws ?_ GE402.out) | exact HB.out))) | (with_reducible refine Kd.C_alloc ?_ _) | (with_reducible refine Kd.C_drewN ?_ _) | (with_reducible refine Kd.C_drew ?_))); (case side4 => exact HC1_3.out); rintro e w15 ⟨rfl, hb⟩; have n0_ := asd (blk_below (g := gb401) (o := .cells #[.int .i64 a0_0, .int .i64 a0_1, .slice A0_2 l0_2.length c0_2, .slice A0_3 l0_3.length c0_3, .slice A0_4 l0_4.length c0_4] 34 (0, 0)) (by (with_reducible repeat first | apply bn | apply bd | apply ba); exact BK401.out) hb); have n1_ := asd (blk_below (g := gb402) (o := .cells #[.int .i64 a1_0, .int .i64 a1_1, .slice A1_2 l1_2.length c1_2, .slice A1_3 l1_3.length c1_3, .slice A1_4 l1_4.length c1_4] 34 (0, 0)) (by (with_reducible repeat first | apply bn | apply bd | apply ba); exact BK402.out) hb); have n2_ := asd (below_step (by repeat (first | (with_reducible first | exact HB.out | apply wa | apply wn | apply wd | refine ws ?_ GE401.out | refine ws ?_ GE402.out) | exact HB.out)) hb); clear BK401; clear BK402; clear HB; have BK401 := n0_; have BK402 := n1_; have HB := n2_; clear n0_ n1_ n2_; (try clear hb); (try clear hb2); (try clear hk); (try clear hi); have hcz16_0 : w15.cell? ⟨gb401, 0, none⟩ = some (.int .i64 a0_0) := (blk_cell BK401.out 0).trans rfl; have hcz16_1 : w15.cell? ⟨gb401, 1, none⟩ = some (.int .i64 a0_1) := (blk_cell BK401.out 1).trans rfl; have hcz16_2 : w15.cell? ⟨gb401, 2, none⟩ = some (.slice A0_2 l0_2.length c0_2) := (blk_cell BK401.out 2).trans rfl; have hcz16_3 : w15.cell? ⟨gb401, 3, none⟩ = some (.slice A0_3 l0_3.length c0_3) := (blk_cell BK401.out 3).trans rfl; have hcz16_4 : w15.cell? ⟨gb401, 4, none⟩ = some (.slice A0_4 l0_4.length c0_4) := (blk_cell BK401.out 4).trans rfl; have hfz16_0 := blk_frozen BK401.out 0; have hfz16_1 := blk_frozen BK401.out 1; have hfz16_2 := blk_frozen BK401.out 2; have hfz16_3 := blk_frozen BK401.out 3; have hfz16_4 := blk_frozen BK401.out 4; have hcz17_0 : w15.cell? ⟨gb402, 0, none⟩ = some (.int .i64 a1_0) := (blk_cell BK402.out 0).trans rfl; have hcz17_1 : w15.cell? ⟨gb402, 1, none⟩ = some (.int .i64 a1_1) := (blk_cell BK402.out 1).trans rfl; have hcz17_2 : w15.cell? ⟨gb402, 2, none⟩ = some (.slice A1_2 l1_2.length c1_2) := (blk_cell BK402.out 2).trans rfl; have hcz17_3 : w15.cell? ⟨gb402, 3, none⟩ = some (.slice A1_3 l1_3.length c1_3) := (blk_cell BK402.out 3).trans rfl; have hcz17_4 : w15.cell? ⟨gb402, 4, none⟩ = some (.slice A1_4 l1_4.length c1_4) := (blk_cell BK402.out 4).trans rfl; have hfz17_0 := blk_frozen BK402.out 0; have hfz17_1 := blk_frozen BK402.out 1; have hfz17_2 := blk_frozen BK402.out 2; have hfz17_3 := blk_frozen BK402.out 3; have hfz17_4 := blk_frozen BK402.out 4) | (go_at_call 64; (with_reducible refine (conf_Channel_64.calls k _ _ l0_4 _ _ l1_4 t405 _ ?side1 ?side2 ?side3 ?side4 A9.out).mono ?_); (case side1 => repeat (first | exact (Kd.C_below HR0_4.out HB.out) | (with_reducible refine Kd.C_alloc ?_ _) | (with_reducible refine Kd.C_drewN ?_ _) | (with_reducible refine Kd.C_drew ?_))); (case side2 => exact HC0_4.out); (case side3 => repeat (first | exact (Kd.C_below HR1_4.out HB.out) | (with_reducible refine Kd.C_alloc ?_ _) | (with_reducible refine Kd.C_drewN ?_ _) | (with_reducible refine Kd.C_drew ?_))); (case side4 => exact HC1_4.out); rintro e w' ⟨rfl, ⟨nd, rfl⟩⟩))
     go_ret
     exact ⟨by first | rfl | (simp [*] <;> rfl), by repeat (first | (with_reducible first | exact HB.out | apply wa | apply wn | apply wd | refine ws ?_ GE401.out | refine ws ?_ GE402.out) | exact HB.out)⟩
    ·replace c8 := Bool.eq_false_iff.mpr c8
     subst c8
     have H1 : (some false) = some r := by rw [if_neg (show ¬ (false = true) by decide)] at H; exact H
     clear H
     have H := H1
     clear H1
     obtain rfl := Option.some.inj H
     go_enter Try.func34, Try.ntmps34
     go_wp2_with (first | ((with_reducible refine gate_dst (N := 2) rfl ?_); refine box_event ?hg (N := 2) ?hd (cs := #[.int .i64 a0_0, .int .i64 a0_1, .slice A0_2 l0_2.length c0_2, .slice A0_3 l0_3.length c0_3, .slice A0_4 l0_4.length c0_4]) (t := 34) ?hr ?_; (case hd => rfl); (case hg => rfl); (case hr => first | (go_simp; done) | (go_simp; rfl)); intro gb401 hg w18 hbox hb; have n0_ := asd (below_step (by repeat (first | (with_reducible first | exact HB.out | apply wa | apply wn | apply wd) | exact HB.out)) hb); have n1_ := asd (hbox); have n2_ := asd ((by rw [hg]; exact (below_size (by repeat (first | (with_reducible first | exact HB.out | apply wa | apply wn | apply wd) | exact HB.out))) : w.heap.size ≤ gb401)); have n3_ := asd ((by rw [hg]; exact (below_size (by repeat (first | (with_reducible first | exact HB.out | apply wa | apply wn | apply wd) | exact HB.out))) : w.heap.size ≤ gb401)); clear HB; have HB := n0_; have BK401 := n1_; have GW401 := n2_; have GE401 := n3_; clear n0_ n1_ n2_ n3_; clear hb hbox hg) | ((with_reducible refine gate_dst (N := 3) rfl ?_); refine box_event ?hg (N := 3) ?hd (cs := #[.int .i64 a1_0, .int .i64 a1_1, .slice A1_2 l1_2.length c1_2, .slice A1_3 l1_3.length c1_3, .slice A1_4 l1_4.length c1_4]) (t := 34) ?hr ?_; (case hd => rfl); (case hg => rfl); (case hr => first | (go_simp; done) | (go_simp; rfl)); intro gb402 hg w19 hbox hb; have n0_ := asd (blk_below (g := gb401) (o := .cells #[.int .i64 a0_0, .int .i64 a0_1, .slice A0_2 l0_2.length c0_2, .slice A0_3 l0_3.length c0_3, .slice A0_4 l0_4.length c0_4] 34 (0, 0)) (by (with_reducible repeat first | apply bn | apply bd | apply ba); exact BK401.out) hb); have n1_ := asd (below_step (by repeat (first | (with_reducible first | exact HB.out | apply wa | apply wn | apply wd | refine ws ?_ GE401.out) | exact HB.out)) hb); have n2_ := asd (hbox); have n3_ := asd ((by rw [hg]; exact (below_size (by repeat (first | (with_reducible first | exact HB.out | apply wa | apply wn | apply wd | refine ws ?_ GE401.out) | exact HB.out))) : w.heap.size ≤ gb402)); have n4_ := asd ((by rw [hg]; exact (below_size (by repeat (first | (with_reducible first | exact HB.out | apply wa | apply wn | apply wd | refine ws ?_ GE401.out) | exact HB.out))) : w.heap.size ≤ gb402)); have n5_ := asd ((by rw [hg]; exact Nat.ne_of_lt (blk_lt (g := gb401) (o := .cells #[.int .i64 a0_0, .int .i64 a0_1, .slice A0_2 l0_2.length c0_2, .slice A0_3 l0_3.length c0_3, .slice A0_4 l0_4.length c0_4] 34 (0, 0)) (by (with_reducible repeat first | apply bn | apply bd | apply ba); exact BK401.out)) : gb401 ≠ gb402)); have n6_ := asd ((by rw [hg]; exact Nat.ne_of_gt (blk_lt (g := gb401) (o := .cells #[.int .i64 a0_0, .int .i64 a0_1, .slice A0_2 l0_2.length c0_2, .slice A0_3 l0_3.length c0_3, .slice A0_4 l0_4.length c0_4] 34 (0, 0)) (by (with_reducible repeat first | apply bn | apply bd | apply ba); exact BK401.out)) : gb402 ≠ gb401)); clear BK401; clear HB; have BK401 := n0_; have HB := n1_; have BK402 := n2_; have GW402 := n3_; have GE402 := n4_; have NB401_402 := n5_; have NB402_401 := n6_; clear n0_ n1_ n2_ n3_ n4_ n5_ n6_; clear hb hbox hg; have hnb20 := NB401_402.out; have hnc20 := NB402_401.out; have hcz21_0 : w19.cell? ⟨gb401, 0, none⟩ = some (.int .i64 a0_0) := (blk_cell BK401.out 0).trans rfl; have hcz21_1 : w19.cell? ⟨gb401, 1, none⟩ = some (.int .i64 a0_1) := (blk_cell BK401.out 1).trans rfl; have hcz21_2 : w19.cell? ⟨gb401, 2, none⟩ = some (.slice A0_2 l0_2.length c0_2) := (blk_cell BK401.out 2).trans rfl; have hcz21_3 : w19.cell? ⟨gb401, 3, none⟩ = some (.slice A0_3 l0_3.length c0_3) := (blk_cell BK401.out 3).trans rfl; have hcz21_4 : w19.cell? ⟨gb401, 4, none⟩ = some (.slice A0_4 l0_4.length c0_4) := (blk_cell BK401.out 4).trans rfl; have hfz21_0 := blk_frozen BK401.out 0; have hfz21_1 := blk_frozen BK401.out 1; have hfz21_2 := blk_frozen BK401.out 2; have hfz21_3 := blk_frozen BK401.out 3; have hfz21_4 := blk_frozen BK401.out 4; have hcz22_0 : w19.cell? ⟨gb402, 0, none⟩ = some (.int .i64 a1_0) := (blk_cell BK402.out 0).trans rfl; have hcz22_1 : w19.cell? ⟨gb402, 1, none⟩ = some (.int .i64 a1_1) := (blk_cell BK402.out 1).trans rfl; have hcz22_2 : w19.cell? ⟨gb402, 2, none⟩ = some (.slice A1_2 l1_2.length c1_2) := (blk_cell BK402.out 2).trans rfl; have hcz22_3 : w19.cell? ⟨gb402, 3, none⟩ = some (.slice A1_3 l1_3.length c1_3) := (blk_cell BK402.out 3).trans rfl; have hcz22_4 : w19.cell? ⟨gb402, 4, none⟩ = some (.slice A1_4 l1_4.length c1_4) := (blk_cell BK402.out 4).trans rfl; have hfz22_0 := blk_frozen BK402.out 0; have hfz22_1 := blk_frozen BK402.out 1; have hfz22_2 := blk_frozen BK402.out 2; have hfz22_3 := blk_frozen BK402.out 3; have hfz22_4 := blk_frozen BK402.out 4) | (go_at_call 61; (with_reducible refine (conf_Window_61.calls k _ _ l0_2 _ _ l1_2 true _ ?side1 ?side2 ?side3 ?side4 A5.out).mono ?_); (case side1 => repeat (first | exact (Kd.C_below HR0_2.out HB.out) | (with_reducible refine Kd.C_alloc ?_ _) | (with_reducible refine Kd.C_drewN ?_ _) | (with_reducible refine Kd.C_drew ?_))); (case side2 => exact HC0_2.out); (case side3 => repeat (first | exact (Kd.C_below HR1_2.out HB.out) | (with_reducible refine Kd.C_alloc ?_ _) | (with_reducible refine Kd.C_drewN ?_ _) | (with_reducible refine Kd.C_drew ?_))); (case side4 => exact HC1_2.out); rintro e w' ⟨rfl, ⟨nd, rfl⟩⟩) | (go_at_call 62; (with_reducible refine (conf_Part_62.calls k _ _ l0_3 _ _ l1_3  false _ ?side1 ?side2 ?side3 ?side4 A7.out).mono ?_); (case side1 => repeat (first | exact (Kd.C_below HR0_3.out (by repeat (first | (with_reducible first | exact HB.out | apply wa | apply wn | apply wd | refine ws ?_ GE401.out | refine ws ?_ GE402.out) | exact HB.out))) | (with_reducible refine Kd.C_alloc ?_ _) | (with_reducible refine Kd.C_drewN ?_ _) | (with_reducible refine Kd.C_drew ?_))); (case side2 => exact HC0_3.out); (case side3 => repeat (first | exact (Kd.C_below HR1_3.out (by repeat (first | (with_reducible first | exact HB.out | apply wa | apply wn | apply wd | refine ws ?_ GE401.out | refine ws ?_ GE402.out) | exact HB.out))) | (with_reducible refine Kd.C_alloc ?_ _) | (with_reducible refine Kd.C_drewN ?_ _) | (with_reducible refine Kd.C_drew ?_))); (case side4 => exact HC1_3.out); rintro e w23 ⟨rfl, hb⟩; have n0_ := asd (blk_below (g := gb401) (o := .cells #[.int .i64 a0_0, .int .i64 a0_1, .slice A0_2 l0_2.length c0_2, .slice A0_3 l0_3.length c0_3, .slice A0_4 l0_4.length c0_4] 34 (0, 0)) (by (with_reducible repeat first | apply bn | apply bd | apply ba); exact BK401.out) hb); have n1_ := asd (blk_below (g := gb402) (o := .cells #[.int .i64 a1_0, .int .i64 a1_1, .slice A1_2 l1_2.length c1_2, .slice A1_3 l1_3.length c1_3, .slice A1_4 l1_4.length c1_4] 34 (0, 0)) (by (with_reducible repeat first | apply bn | apply bd | apply ba); exact BK402.out) hb); have n2_ := asd (below_step (by repeat (first | (with_reducible first | exact HB.out | apply wa | apply wn | apply wd | refine ws ?_ GE401.out | refine ws ?_ GE402.out) | exact HB.out)) hb); clear BK401; clear BK402; clear HB; have BK401 := n0_; have BK402 := n1_; have HB := n2_; clear n0_ n1_ n2_; (try clear hb); (try clear hb2); (try clear hk); (try clear hi)))
     go_ret
     exact ⟨by first | rfl | (simp [*] <;> rfl), by repeat (first | (with_reducible first | exact HB.out | apply wa | apply wn | apply wd | refine ws ?_ GE401.out | refine ws ?_ GE402.out) | exact HB.out)⟩
   ·replace c6 := Bool.eq_false_iff.mpr c6
    subst c6
    have H1 : (some false) = some r := by rw [if_neg (show ¬ (false = true) by decide)] at H; exact H
    clear H
    have H := H1
    clear H1
    obtain rfl := Option.some.inj H
    go_enter Try.func34, Try.ntmps34
    go_wp2_with (first | ((with_reducible refine gate_dst (N := 2) rfl ?_); refine box_event ?hg (N := 2) ?hd (cs := #[.int .i64 a0_0, .int .i64 a0_1, .slice A0_2 l0_2.length c0_2, .slice A0_3 l0_3.length c0_3, .slice A0_4 l0_4.length c0_4]) (t := 34) ?hr ?_; (case hd => rfl); (case hg => rfl); (case hr => first | (go_simp; done) | (go_simp; rfl)); intro gb401 hg w24 hbox hb; have n0_ := asd (below_step (by repeat (first | (with_reducible first | exact HB.out | apply wa | apply wn | apply wd) | exact HB.out)) hb); have n1_ := asd (hbox); have n2_ := asd ((by rw [hg]; exact (below_size (by repeat (first | (with_reducible first | exact HB.out | apply wa | apply wn | apply wd) | exact HB.out))) : w.heap.size ≤ gb401)); have n3_ := asd ((by rw [hg]; exact (below_size (by repeat (first | (with_reducible first | exact HB.out | apply wa | apply wn | apply wd) | exact HB.out))) : w.heap.size ≤ gb401)); clear HB; have HB := n0_; have BK401 := n1_; have GW401 := n2_; have GE401 := n3_; clear n0_ n1_ n2_ n3_; clear hb hbox hg) | ((with_reducible refine gate_dst (N := 3) rfl ?_); refine box_event ?hg (N := 3) ?hd (cs := #[.int .i64 a1_0, .int .i64 a1_1, .slice A1_2 l1_2.length c1_2, .slice A1_3 l1_3.length c1_3, .slice A1_4 l1_4.length c1_4]) (t := 34) ?hr ?_; (case hd => rfl); (case hg => rfl); (case hr => first | (go_simp; done) | (go_simp; rfl)); intro gb402 hg w25 hbox hb; have n0_ := asd (blk_below (g := gb401) (o := .cells #[.int .i64 a0_0, .int .i64 a0_1, .slice A0_2 l0_2.length c0_2, .slice A0_3 l0_3.length c0_3, .slice A0_4 l0_4.length c0_4] 34 (0, 0)) (by (with_reducible repeat first | apply bn | apply bd | apply ba); exact BK401.out) hb); have n1_ := asd (below_step (by repeat (first | (with_reducible first | exact HB.out | apply wa | apply wn | apply wd | refine ws ?_ GE401.out) | exact HB.out)) hb); have n2_ := asd (hbox); have n3_ := asd ((by rw [hg]; exact (below_size (by repeat (first | (with_reducible first | exact HB.out | apply wa | apply wn | apply wd | refine ws ?_ GE401.out) | exact HB.out))) : w.heap.size ≤ gb402)); have n4_ := asd ((by rw [hg]; exact (below_size (by repeat (first | (with_reducible first | exact HB.out | apply wa | apply wn | apply wd | refine ws ?_ GE401.out) | exact HB.out))) : w.heap.size ≤ gb402)); have n5_ := asd ((by rw [hg]; exact Nat.ne_of_lt (blk_lt (g := gb401) (o := .cells #[.int .i64 a0_0, .int .i64 a0_1, .slice A0_2 l0_2.length c0_2, .slice A0_3 l0_3.length c0_3, .slice A0_4 l0_4.length c0_4] 34 (0, 0)) (by (with_reducible repeat first | apply bn | apply bd | apply ba); exact BK401.out)) : gb401 ≠ gb402)); have n6_ := asd ((by rw [hg]; exact Nat.ne_of_gt (blk_lt (g := gb401) (o := .cells #[.int .i64 a0_0, .int .i64 a0_1, .slice A0_2 l0_2.length c0_2, .slice A0_3 l0_3.length c0_3, .slice A0_4 l0_4.length c0_4] 34 (0, 0)) (by (with_reducible repeat first | apply bn | apply bd | apply ba); exact BK401.out)) : gb402 ≠ gb401)); clear BK401; clear HB; have BK401 := n0_; have HB := n1_; have BK402 := n2_; have GW402 := n3_; have GE402 := n4_; have NB401_402 := n5_; have NB402_401 := n6_; clear n0_ n1_ n2_ n3_ n4_ n5_ n6_; clear hb hbox hg; have hnb26 := NB401_402.out; have hnc26 := NB402_401.out; have hcz27_0 : w25.cell? ⟨gb401, 0, none⟩ = some (.int .i64 a0_0) := (blk_cell BK401.out 0).trans rfl; have hcz27_1 : w25.cell? ⟨gb401, 1, none⟩ = some (.int .i64 a0_1) := (blk_cell BK401.out 1).trans rfl; have hcz27_2 : w25.cell? ⟨gb401, 2, none⟩ = some (.slice A0_2 l0_2.length c0_2) := (blk_cell BK401.out 2).trans rfl; have hcz27_3 : w25.cell? ⟨gb401, 3, none⟩ = some (.slice A0_3 l0_3.length c0_3) := (blk_cell BK401.out 3).trans rfl; have hcz27_4 : w25.cell? ⟨gb401, 4, none⟩ = some (.slice A0_4 l0_4.length c0_4) := (blk_cell BK401.out 4).trans rfl; have hfz27_0 := blk_frozen BK401.out 0; have hfz27_1 := blk_frozen BK401.out 1; have hfz27_2 := blk_frozen BK401.out 2; have hfz27_3 := blk_frozen BK401.out 3; have hfz27_4 := blk_frozen BK401.out 4; have hcz28_0 : w25.cell? ⟨gb402, 0, none⟩ = some (.int .i64 a1_0) := (blk_cell BK402.out 0).trans rfl; have hcz28_1 : w25.cell? ⟨gb402, 1, none⟩ = some (.int .i64 a1_1) := (blk_cell BK402.out 1).trans rfl; have hcz28_2 : w25.cell? ⟨gb402, 2, none⟩ = some (.slice A1_2 l1_2.length c1_2) := (blk_cell BK402.out 2).trans rfl; have hcz28_3 : w25.cell? ⟨gb402, 3, none⟩ = some (.slice A1_3 l1_3.length c1_3) := (blk_cell BK402.out 3).trans rfl; have hcz28_4 : w25.cell? ⟨gb402, 4, none⟩ = some (.slice A1_4 l1_4.length c1_4) := (blk_cell BK402.out 4).trans rfl; have hfz28_0 := blk_frozen BK402.out 0; have hfz28_1 := blk_frozen BK402.out 1; have hfz28_2 := blk_frozen BK402.out 2; have hfz28_3 := blk_frozen BK402.out 3; have hfz28_4 := blk_frozen BK402.out 4) | (go_at_call 61; (with_reducible refine (conf_Window_61.calls k _ _ l0_2 _ _ l1_2 false _ ?side1 ?side2 ?side3 ?side4 A5.out).mono ?_); (case side1 => repeat (first | exact (Kd.C_below HR0_2.out HB.out) | (with_reducible refine Kd.C_alloc ?_ _) | (with_reducible refine Kd.C_drewN ?_ _) | (with_reducible refine Kd.C_drew ?_))); (case side2 => exact HC0_2.out); (case side3 => repeat (first | exact (Kd.C_below HR1_2.out HB.out) | (with_reducible refine Kd.C_alloc ?_ _) | (with_reducible refine Kd.C_drewN ?_ _) | (with_reducible refine Kd.C_drew ?_))); (case side4 => exact HC1_2.out); rintro e w' ⟨rfl, ⟨nd, rfl⟩⟩))
    go_ret
    exact ⟨by first | rfl | (simp [*] <;> rfl), by repeat (first | (with_reducible first | exact HB.out | apply wa | apply wn | apply wd | refine ws ?_ GE401.out | refine ws ?_ GE402.out) | exact HB.out)⟩
  ·rw [if_neg c4] at H
   have c4b0 : (a0_1 == a1_1) = false := beq_eq_false_iff_ne.mpr c4
   have c4b1 : (a0_1 != a1_1) = true := bne_iff_ne.mpr c4
   obtain rfl := Option.some.inj H
   go_enter Try.func34, Try.ntmps34
   go_wp2_with (first | ((with_reducible refine gate_dst (N := 2) rfl ?_); refine box_event ?hg (N := 2) ?hd (cs := #[.int .i64 a0_0, .int .i64 a0_1, .slice A0_2 l0_2.length c0_2, .slice A0_3 l0_3.length c0_3, .slice A0_4 l0_4.length c0_4]) (t := 34) ?hr ?_; (case hd => rfl); (case hg => rfl); (case hr => first | (go_simp; done) | (go_simp; rfl)); intro gb401 hg w29 hbox hb; have n0_ := asd (below_step (by repeat (first | (with_reducible first | exact HB.out | apply wa | apply wn | apply wd) | exact HB.out)) hb); have n1_ := asd (hbox); have n2_ := asd ((by rw [hg]; exact (below_size (by repeat (first | (with_reducible first | exact HB.out | apply wa | apply wn | apply wd) | exact HB.out))) : w.heap.size ≤ gb401)); have n3_ := asd ((by rw [hg]; exact (below_size (by repeat (first | (with_reducible first | exact HB.out | apply wa | apply wn | apply wd) | exact HB.out))) : w.heap.size ≤ gb401)); clear HB; have HB := n0_; have BK401 := n1_; have GW401 := n2_; have GE401 := n3_; clear n0_ n1_ n2_ n3_; clear hb hbox hg) | ((with_reducible refine gate_dst (N := 3) rfl ?_); refine box_event ?hg (N := 3) ?hd (cs := #[.int .i64 a1_0, .int .i64 a1_1, .slice A1_2 l1_2.length c1_2, .slice A1_3 l1_3.length c1_3, .slice A1_4 l1_4.length c1_4]) (t := 34) ?hr ?_; (case hd => rfl); (case hg => rfl); (case hr => first | (go_simp; done) | (go_simp; rfl)); intro gb402 hg w30 hbox hb; have n0_ := asd (blk_below (g := gb401) (o := .cells #[.int .i64 a0_0, .int .i64 a0_1, .slice A0_2 l0_2.length c0_2, .slice A0_3 l0_3.length c0_3, .slice A0_4 l0_4.length c0_4] 34 (0, 0)) (by (with_reducible repeat first | apply bn | apply bd | apply ba); exact BK401.out) hb); have n1_ := asd (below_step (by repeat (first | (with_reducible first | exact HB.out | apply wa | apply wn | apply wd | refine ws ?_ GE401.out) | exact HB.out)) hb); have n2_ := asd (hbox); have n3_ := asd ((by rw [hg]; exact (below_size (by repeat (first | (with_reducible first | exact HB.out | apply wa | apply wn | apply wd | refine ws ?_ GE401.out) | exact HB.out))) : w.heap.size ≤ gb402)); have n4_ := asd ((by rw [hg]; exact (below_size (by repeat (first | (with_reducible first | exact HB.out | apply wa | apply wn | apply wd | refine ws ?_ GE401.out) | exact HB.out))) : w.heap.size ≤ gb402)); have n5_ := asd ((by rw [hg]; exact Nat.ne_of_lt (blk_lt (g := gb401) (o := .cells #[.int .i64 a0_0, .int .i64 a0_1, .slice A0_2 l0_2.length c0_2, .slice A0_3 l0_3.length c0_3, .slice A0_4 l0_4.length c0_4] 34 (0, 0)) (by (with_reducible repeat first | apply bn | apply bd | apply ba); exact BK401.out)) : gb401 ≠ gb402)); have n6_ := asd ((by rw [hg]; exact Nat.ne_of_gt (blk_lt (g := gb401) (o := .cells #[.int .i64 a0_0, .int .i64 a0_1, .slice A0_2 l0_2.length c0_2, .slice A0_3 l0_3.length c0_3, .slice A0_4 l0_4.length c0_4] 34 (0, 0)) (by (with_reducible repeat first | apply bn | apply bd | apply ba); exact BK401.out)) : gb402 ≠ gb401)); clear BK401; clear HB; have BK401 := n0_; have HB := n1_; have BK402 := n2_; have GW402 := n3_; have GE402 := n4_; have NB401_402 := n5_; have NB402_401 := n6_; clear n0_ n1_ n2_ n3_ n4_ n5_ n6_; clear hb hbox hg; have hnb31 := NB401_402.out; have hnc31 := NB402_401.out; have hcz32_0 : w30.cell? ⟨gb401, 0, none⟩ = some (.int .i64 a0_0) := (blk_cell BK401.out 0).trans rfl; have hcz32_1 : w30.cell? ⟨gb401, 1, none⟩ = some (.int .i64 a0_1) := (blk_cell BK401.out 1).trans rfl; have hcz32_2 : w30.cell? ⟨gb401, 2, none⟩ = some (.slice A0_2 l0_2.length c0_2) := (blk_cell BK401.out 2).trans rfl; have hcz32_3 : w30.cell? ⟨gb401, 3, none⟩ = some (.slice A0_3 l0_3.length c0_3) := (blk_cell BK401.out 3).trans rfl; have hcz32_4 : w30.cell? ⟨gb401, 4, none⟩ = some (.slice A0_4 l0_4.length c0_4) := (blk_cell BK401.out 4).trans rfl; have hfz32_0 := blk_frozen BK401.out 0; have hfz32_1 := blk_frozen BK401.out 1; have hfz32_2 := blk_frozen BK401.out 2; have hfz32_3 := blk_frozen BK401.out 3; have hfz32_4 := blk_frozen BK401.out 4; have hcz33_0 : w30.cell? ⟨gb402, 0, none⟩ = some (.int .i64 a1_0) := (blk_cell BK402.out 0).trans rfl; have hcz33_1 : w30.cell? ⟨gb402, 1, none⟩ = some (.int .i64 a1_1) := (blk_cell BK402.out 1).trans rfl; have hcz33_2 : w30.cell? ⟨gb402, 2, none⟩ = some (.slice A1_2 l1_2.length c1_2) := (blk_cell BK402.out 2).trans rfl; have hcz33_3 : w30.cell? ⟨gb402, 3, none⟩ = some (.slice A1_3 l1_3.length c1_3) := (blk_cell BK402.out 3).trans rfl; have hcz33_4 : w30.cell? ⟨gb402, 4, none⟩ = some (.slice A1_4 l1_4.length c1_4) := (blk_cell BK402.out 4).trans rfl; have hfz33_0 := blk_frozen BK402.out 0; have hfz33_1 := blk_frozen BK402.out 1; have hfz33_2 := blk_frozen BK402.out 2; have hfz33_3 := blk_frozen BK402.out 3; have hfz33_4 := blk_frozen BK402.out 4))
   go_ret
   exact ⟨by first | rfl | (simp [*] <;> rfl), by repeat (first | (with_reducible first | exact HB.out | apply wa | apply wn | apply wd | refine ws ?_ GE401.out | refine ws ?_ GE402.out) | exact HB.out)⟩
 ·rw [if_neg c3] at H
  have c3b0 : (a0_0 == a1_0) = false := beq_eq_false_iff_ne.mpr c3
  have c3b1 : (a0_0 != a1_0) = true := bne_iff_ne.mpr c3
  obtain rfl := Option.some.inj H
  go_enter Try.func34, Try.ntmps34
  go_wp2_with (first | ((with_reducible refine gate_dst (N := 2) rfl ?_); refine box_event ?hg (N := 2) ?hd (cs := #[.int .i64 a0_0, .int .i64 a0_1, .slice A0_2 l0_2.length c0_2, .slice A0_3 l0_3.length c0_3, .slice A0_4 l0_4.length c0_4]) (t := 34) ?hr ?_; (case hd => rfl); (case hg => rfl); (case hr => first | (go_simp; done) | (go_simp; rfl)); intro gb401 hg w34 hbox hb; have n0_ := asd (below_step (by repeat (first | (with_reducible first | exact HB.out | apply wa | apply wn | apply wd) | exact HB.out)) hb); have n1_ := asd (hbox); have n2_ := asd ((by rw [hg]; exact (below_size (by repeat (first | (with_reducible first | exact HB.out | apply wa | apply wn | apply wd) | exact HB.out))) : w.heap.size ≤ gb401)); have n3_ := asd ((by rw [hg]; exact (below_size (by repeat (first | (with_reducible first | exact HB.out | apply wa | apply wn | apply wd) | exact HB.out))) : w.heap.size ≤ gb401)); clear HB; have HB := n0_; have BK401 := n1_; have GW401 := n2_; have GE401 := n3_; clear n0_ n1_ n2_ n3_; clear hb hbox hg) | ((with_reducible refine gate_dst (N := 3) rfl ?_); refine box_event ?hg (N := 3) ?hd (cs := #[.int .i64 a1_0, .int .i64 a1_1, .slice A1_2 l1_2.length c1_2, .slice A1_3 l1_3.length c1_3, .slice A1_4 l1_4.length c1_4]) (t := 34) ?hr ?_; (case hd => rfl); (case hg => rfl); (case hr => first | (go_simp; done) | (go_simp; rfl)); intro gb402 hg w35 hbox hb; have n0_ := asd (blk_below (g := gb401) (o := .cells #[.int .i64 a0_0, .int .i64 a0_1, .slice A0_2 l0_2.length c0_2, .slice A0_3 l0_3.length c0_3, .slice A0_4 l0_4.length c0_4] 34 (0, 0)) (by (with_reducible repeat first | apply bn | apply bd | apply ba); exact BK401.out) hb); have n1_ := asd (below_step (by repeat (first | (with_reducible first | exact HB.out | apply wa | apply wn | apply wd | refine ws ?_ GE401.out) | exact HB.out)) hb); have n2_ := asd (hbox); have n3_ := asd ((by rw [hg]; exact (below_size (by repeat (first | (with_reducible first | exact HB.out | apply wa | apply wn | apply wd | refine ws ?_ GE401.out) | exact HB.out))) : w.heap.size ≤ gb402)); have n4_ := asd ((by rw [hg]; exact (below_size (by repeat (first | (with_reducible first | exact HB.out | apply wa | apply wn | apply wd | refine ws ?_ GE401.out) | exact HB.out))) : w.heap.size ≤ gb402)); have n5_ := asd ((by rw [hg]; exact Nat.ne_of_lt (blk_lt (g := gb401) (o := .cells #[.int .i64 a0_0, .int .i64 a0_1, .slice A0_2 l0_2.length c0_2, .slice A0_3 l0_3.length c0_3, .slice A0_4 l0_4.length c0_4] 34 (0, 0)) (by (with_reducible repeat first | apply bn | apply bd | apply ba); exact BK401.out)) : gb401 ≠ gb402)); have n6_ := asd ((by rw [hg]; exact Nat.ne_of_gt (blk_lt (g := gb401) (o := .cells #[.int .i64 a0_0, .int .i64 a0_1, .slice A0_2 l0_2.length c0_2, .slice A0_3 l0_3.length c0_3, .slice A0_4 l0_4.length c0_4] 34 (0, 0)) (by (with_reducible repeat first | apply bn | apply bd | apply ba); exact BK401.out)) : gb402 ≠ gb401)); clear BK401; clear HB; have BK401 := n0_; have HB := n1_; have BK402 := n2_; have GW402 := n3_; have GE402 := n4_; have NB401_402 := n5_; have NB402_401 := n6_; clear n0_ n1_ n2_ n3_ n4_ n5_ n6_; clear hb hbox hg; have hnb36 := NB401_402.out; have hnc36 := NB402_401.out; have hcz37_0 : w35.cell? ⟨gb401, 0, none⟩ = some (.int .i64 a0_0) := (blk_cell BK401.out 0).trans rfl; have hcz37_1 : w35.cell? ⟨gb401, 1, none⟩ = some (.int .i64 a0_1) := (blk_cell BK401.out 1).trans rfl; have hcz37_2 : w35.cell? ⟨gb401, 2, none⟩ = some (.slice A0_2 l0_2.length c0_2) := (blk_cell BK401.out 2).trans rfl; have hcz37_3 : w35.cell? ⟨gb401, 3, none⟩ = some (.slice A0_3 l0_3.length c0_3) := (blk_cell BK401.out 3).trans rfl; have hcz37_4 : w35.cell? ⟨gb401, 4, none⟩ = some (.slice A0_4 l0_4.length c0_4) := (blk_cell BK401.out 4).trans rfl; have hfz37_0 := blk_frozen BK401.out 0; have hfz37_1 := blk_frozen BK401.out 1; have hfz37_2 := blk_frozen BK401.out 2; have hfz37_3 := blk_frozen BK401.out 3; have hfz37_4 := blk_frozen BK401.out 4; have hcz38_0 : w35.cell? ⟨gb402, 0, none⟩ = some (.int .i64 a1_0) := (blk_cell BK402.out 0).trans rfl; have hcz38_1 : w35.cell? ⟨gb402, 1, none⟩ = some (.int .i64 a1_1) := (blk_cell BK402.out 1).trans rfl; have hcz38_2 : w35.cell? ⟨gb402, 2, none⟩ = some (.slice A1_2 l1_2.length c1_2) := (blk_cell BK402.out 2).trans rfl; have hcz38_3 : w35.cell? ⟨gb402, 3, none⟩ = some (.slice A1_3 l1_3.length c1_3) := (blk_cell BK402.out 3).trans rfl; have hcz38_4 : w35.cell? ⟨gb402, 4, none⟩ = some (.slice A1_4 l1_4.length c1_4) := (blk_cell BK402.out 4).trans rfl; have hfz38_0 := blk_frozen BK402.out 0; have hfz38_1 := blk_frozen BK402.out 1; have hfz38_2 := blk_frozen BK402.out 2; have hfz38_3 := blk_frozen BK402.out 3; have hfz38_4 := blk_frozen BK402.out 4))
  go_ret
  exact ⟨by first | rfl | (simp [*] <;> rfl), by repeat (first | (with_reducible first | exact HB.out | apply wa | apply wn | apply wd | refine ws ?_ GE401.out | refine ws ?_ GE402.out) | exact HB.out)⟩
end Go.Proofs.Ytmjhnmdmopmfjaa.Fn
namespace Go.Proofs.Ytmjhnmdmopmfjaa.Fn
open Go.RowKit Go.Proofs.YtmjhnmdmopmfjaaW.PrintWords Go.Proofs.YtmjhnmdmopmfjaaW.PrintLast Go.Proofs.YtmjhnmdmopmfjaaW.PrintMore
attribute [local go_sem] max2_int min2_int max_two min_two max_three min_three max_four min_four
set_option linter.unusedVariables false
set_option linter.unusedSimpArgs false
theorem eqA77 (d : Nat) (w : World) (x0 y0 : Int) (x1 y1 : Int) (x2 y2 : Int) :
  (Op.equalIn (d + 2) 77 (.agg #[.int .i64 x0, .int .i64 x1, .int .i64 x2]) (.agg #[.int .i64 y0, .int .i64 y1, .int .i64 y2])).run Try.prog w = .ok (x0 == y0 && (x1 == y1 && (x2 == y2))) w := by
 refine eqA_of Try.underlying77 (by kernel_rfl) ?_
 refine eqf_cons (by rfl) (by go_simp; rfl) (by go_simp; rfl) (by go_simp) ?_
 refine eqf_cons (by rfl) (by go_simp; rfl) (by go_simp; rfl) (by go_simp) ?_
 exact eqf_last (by rfl) (by go_simp; rfl) (by go_simp; rfl) (by go_simp)
end Go.Proofs.Ytmjhnmdmopmfjaa.Fn
namespace Go.Proofs.Ytmjhnmdmopmfjaa.Fn
open Go.RowKit Go.Proofs.YtmjhnmdmopmfjaaW.PrintWords Go.Proofs.YtmjhnmdmopmfjaaW.PrintLast Go.Proofs.YtmjhnmdmopmfjaaW.PrintMore
attribute [local go_sem] max2_int min2_int max_two min_two max_three min_three max_four min_four
set_option linter.unusedVariables false
set_option linter.unusedSimpArgs false
theorem eqA78 (d : Nat) (w : World) (x0 y0 : Bool) (x1 y1 : Int) (x2 y2 : Int) (x3 y3 : Int) :
  (Op.equalIn (d + 2) 78 (.agg #[.bool x0, .int .i64 x1, .int .i64 x2, .int .i64 x3]) (.agg #[.bool y0, .int .i64 y1, .int .i64 y2, .int .i64 y3])).run Try.prog w = .ok (x0 == y0 && (x1 == y1 && (x2 == y2 && (x3 == y3)))) w := by
 refine eqA_of Try.underlying78 (by kernel_rfl) ?_
 refine eqf_cons (by rfl) (by go_simp; rfl) (by go_simp; rfl) (by go_simp) ?_
 refine eqf_cons (by rfl) (by go_simp; rfl) (by go_simp; rfl) (by go_simp) ?_
 refine eqf_cons (by rfl) (by go_simp; rfl) (by go_simp; rfl) (by go_simp) ?_
 exact eqf_last (by rfl) (by go_simp; rfl) (by go_simp; rfl) (by go_simp)
end Go.Proofs.Ytmjhnmdmopmfjaa.Fn
namespace Go.Proofs.Ytmjhnmdmopmfjaa.Fn
open Go.RowKit Go.Proofs.YtmjhnmdmopmfjaaW.PrintWords Go.Proofs.YtmjhnmdmopmfjaaW.PrintLast Go.Proofs.YtmjhnmdmopmfjaaW.PrintMore
attribute [local go_sem] max2_int min2_int max_two min_two max_three min_three max_four min_four
set_option linter.unusedVariables false
set_option linter.unusedSimpArgs false
theorem eqA56 (d : Nat) (w : World) (x0 y0 : Bool) (x1 y1 : Int) (x2 y2 : Int) (x3 y3 : Int) (x4 y4 : Int) (x5 y5 : Int) :
  (Op.equalIn (d + 2) 56 (.agg #[.bool x0, .int .i64 x1, .int .i64 x2, .int .i64 x3, .int .i64 x4, .int .i64 x5]) (.agg #[.bool y0, .int .i64 y1, .int .i64 y2, .int .i64 y3, .int .i64 y4, .int .i64 y5])).run Try.prog w = .ok (x0 == y0 && (x1 == y1 && (x2 == y2 && (x3 == y3 && (x4 == y4 && (x5 == y5)))))) w := by
 refine eqA_of Try.underlying56 (by kernel_rfl) ?_
 refine eqf_cons (by rfl) (by go_simp; rfl) (by go_simp; rfl) (by go_simp) ?_
 refine eqf_cons (by rfl) (by go_simp; rfl) (by go_simp; rfl) (by go_simp) ?_
 refine eqf_cons (by rfl) (by go_simp; rfl) (by go_simp; rfl) (by go_simp) ?_
 refine eqf_cons (by rfl) (by go_simp; rfl) (by go_simp; rfl) (by go_simp) ?_
 refine eqf_cons (by rfl) (by go_simp; rfl) (by go_simp; rfl) (by go_simp) ?_
 exact eqf_last (by rfl) (by go_simp; rfl) (by go_simp; rfl) (by go_simp)
end Go.Proofs.Ytmjhnmdmopmfjaa.Fn
namespace Go.Proofs.Ytmjhnmdmopmfjaa.Fn
open Go.RowKit Go.Proofs.YtmjhnmdmopmfjaaW.PrintWords Go.Proofs.YtmjhnmdmopmfjaaW.PrintLast Go.Proofs.YtmjhnmdmopmfjaaW.PrintMore
attribute [local go_sem] max2_int min2_int max_two min_two max_three min_three max_four min_four
set_option linter.unusedVariables false
set_option linter.unusedSimpArgs false
theorem eqA57 (d : Nat) (w : World) (x0 y0 : Bool) (x1 y1 : Int) (x2 y2 : Int) :
  (Op.equalIn (d + 2) 57 (.agg #[.bool x0, .int .i64 x1, .int .i64 x2]) (.agg #[.bool y0, .int .i64 y1, .int .i64 y2])).run Try.prog w = .ok (x0 == y0 && (x1 == y1 && (x2 == y2))) w := by
 refine eqA_of Try.underlying57 (by kernel_rfl) ?_
 refine eqf_cons (by rfl) (by go_simp; rfl) (by go_simp; rfl) (by go_simp) ?_
 refine eqf_cons (by rfl) (by go_simp; rfl) (by go_simp; rfl) (by go_simp) ?_
 exact eqf_last (by rfl) (by go_simp; rfl) (by go_simp; rfl) (by go_simp)
end Go.Proofs.Ytmjhnmdmopmfjaa.Fn
namespace Go.Proofs.Ytmjhnmdmopmfjaa.Fn
open Go.RowKit Go.Proofs.YtmjhnmdmopmfjaaW.PrintWords Go.Proofs.YtmjhnmdmopmfjaaW.PrintLast Go.Proofs.YtmjhnmdmopmfjaaW.PrintMore
attribute [local go_sem] max2_int min2_int max_two min_two max_three min_three max_four min_four
set_option linter.unusedVariables false
set_option linter.unusedSimpArgs false
attribute [local go_sem high] eqA47 eqA56 eqA57
mutual
def parcloseref03_samePart.j0 : Nat → Bool → List (S56) → List (S57) → List Int → Int → Int → Int → List (S56) → List (S57) → List Int → Int → Int → Int → Option (Bool)
 | 0, _, _, _, _, _, _, _, _, _, _, _, _, _ => none
 | k + 1, x39, x226000, x226001, x226002, x226003, x226004, x226005, x227000, x227001, x227002, x227003, x227004, x227005 => if x39 = true then (some false) else (parcloseref03_samePart.l0 k 0 x226000 x226001 x226002 x226003 x226004 x226005 x227000 x227001 x227002 x227003 x227004 x227005)
def parcloseref03_samePart.l0 : Nat → Int → List (S56) → List (S57) → List Int → Int → Int → Int → List (S56) → List (S57) → List Int → Int → Int → Int → Option (Bool)
 | 0, _, _, _, _, _, _, _, _, _, _, _, _, _ => none
 | k + 1, x5, x226000, x226001, x226002, x226003, x226004, x226005, x227000, x227001, x227002, x227003, x227004, x227005 => if x5 < (x226000.length : Int) then (if 0 ≤ x5 then (if x5 < (x227000.length : Int) then (if (!(((rd_T56 x226000 x5).f0) == ((rd_T56 x227000 x5).f0)) || (!(((rd_T56 x226000 x5).f1) == ((rd_T56 x227000 x5).f1)) || (!(((rd_T56 x226000 x5).f2) == ((rd_T56 x227000 x5).f2)) || (!(((rd_T56 x226000 x5).f3) == ((rd_T56 x227000 x5).f3)) || (!(((rd_T56 x226000 x5).f4) == ((rd_T56 x227000 x5).f4)) || (!(((rd_T56 x226000 x5).f5) == ((rd_T56 x227000 x5).f5)))))))) = true then (some false) else (parcloseref03_samePart.l0 k (wrap64 (x5 + 1)) x226000 x226001 x226002 x226003 x226004 x226005 x227000 x227001 x227002 x227003 x227004 x227005)) else (none)) else (none)) else (parcloseref03_samePart.l1 k 0 x226000 x226001 x226002 x226003 x226004 x226005 x227000 x227001 x227002 x227003 x227004 x227005)
def parcloseref03_samePart.l1 : Nat → Int → List (S56) → List (S57) → List Int → Int → Int → Int → List (S56) → List (S57) → List Int → Int → Int → Int → Option (Bool)
 | 0, _, _, _, _, _, _, _, _, _, _, _, _, _ => none
 | k + 1, x6, x226000, x226001, x226002, x226003, x226004, x226005, x227000, x227001, x227002, x227003, x227004, x227005 => if x6 < (x226001.length : Int) then (if 0 ≤ x6 then (if x6 < (x227001.length : Int) then (if (!(((rd_T57 x226001 x6).f0) == ((rd_T57 x227001 x6).f0)) || (!(((rd_T57 x226001 x6).f1) == ((rd_T57 x227001 x6).f1)) || (!(((rd_T57 x226001 x6).f2) == ((rd_T57 x227001 x6).f2))))) = true then (some false) else (parcloseref03_samePart.l1 k (wrap64 (x6 + 1)) x226000 x226001 x226002 x226003 x226004 x226005 x227000 x227001 x227002 x227003 x227004 x227005)) else (none)) else (none)) else (parcloseref03_samePart.l2 k 0 x226000 x226001 x226002 x226003 x226004 x226005 x227000 x227001 x227002 x227003 x227004 x227005)
def parcloseref03_samePart.l2 : Nat → Int → List (S56) → List (S57) → List Int → Int → Int → Int → List (S56) → List (S57) → List Int → Int → Int → Int → Option (Bool)
 | 0, _, _, _, _, _, _, _, _, _, _, _, _, _ => none
 | k + 1, x7, x226000, x226001, x226002, x226003, x226004, x226005, x227000, x227001, x227002, x227003, x227004, x227005 => if x7 < (x226002.length : Int) then (if 0 ≤ x7 then (if x7 < (x227002.length : Int) then (if (rd x226002 x7) = (rd x227002 x7) then (parcloseref03_samePart.l2 k (wrap64 (x7 + 1)) x226000 x226001 x226002 x226003 x226004 x226005 x227000 x227001 x227002 x227003 x227004 x227005) else (some false)) else (none)) else (none)) else (some true)
end
def parcloseref03_samePart.f (k : Nat) (l0_0 : List (S56)) (l0_1 : List (S57)) (l0_2 : List Int) (a0_3 : Int) (a0_4 : Int) (a0_5 : Int) (l1_0 : List (S56)) (l1_1 : List (S57)) (l1_2 : List Int) (a1_3 : Int) (a1_4 : Int) (a1_5 : Int) : Option (Bool) := if (l0_0.length : Int) = (l1_0.length : Int) then (if (l0_1.length : Int) = (l1_1.length : Int) then (if (l0_2.length : Int) = (l1_2.length : Int) then (parcloseref03_samePart.j0 k (!(a0_3 == a1_3) || (!(a0_4 == a1_4) || (!(a0_5 == a1_5)))) l0_0 l0_1 l0_2 a0_3 a0_4 a0_5 l1_0 l1_1 l1_2 a1_3 a1_4 a1_5) else (parcloseref03_samePart.j0 k true l0_0 l0_1 l0_2 a0_3 a0_4 a0_5 l1_0 l1_1 l1_2 a1_3 a1_4 a1_5)) else (parcloseref03_samePart.j0 k true l0_0 l0_1 l0_2 a0_3 a0_4 a0_5 l1_0 l1_1 l1_2 a1_3 a1_4 a1_5)) else (parcloseref03_samePart.j0 k true l0_0 l0_1 l0_2 a0_3 a0_4 a0_5 l1_0 l1_1 l1_2 a1_3 a1_4 a1_5)
set_option maxHeartbeats 8000000 in
set_option maxRecDepth 100000 in
theorem parcloseref03_samePart.calls (k : Nat) (A0_0 : Option Addr) (c0_0 : Nat) (l0_0 : List (S56)) (A0_1 : Option Addr) (c0_1 : Nat) (l0_1 : List (S57)) (A0_2 : Option Addr) (c0_2 : Nat) (l0_2 : List Int) (a0_3 : Int) (a0_4 : Int) (a0_5 : Int) (A1_0 : Option Addr) (c1_0 : Nat) (l1_0 : List (S56)) (A1_1 : Option Addr) (c1_1 : Nat) (l1_1 : List (S57)) (A1_2 : Option Addr) (c1_2 : Nat) (l1_2 : List Int) (a1_3 : Int) (a1_4 : Int) (a1_5 : Int) (r : Bool) (w : World) (hr0_0 : Kd.C k56 w A0_0 l0_0.length l0_0) (hc0_0 : l0_0.length ≤ c0_0) (hr0_1 : Kd.C k57 w A0_1 l0_1.length l0_1) (hc0_1 : l0_1.length ≤ c0_1) (hr0_2 : Kd.C (Kd.int .i64) w A0_2 l0_2.length l0_2) (hc0_2 : l0_2.length ≤ c0_2) (hr1_0 : Kd.C k56 w A1_0 l1_0.length l1_0) (hc1_0 : l1_0.length ≤ c1_0) (hr1_1 : Kd.C k57 w A1_1 l1_1.length l1_1) (hc1_1 : l1_1.length ≤ c1_1) (hr1_2 : Kd.C (Kd.int .i64) w A1_2 l1_2.length l1_2) (hc1_2 : l1_2.length ≤ c1_2) (h : parcloseref03_samePart.f k l0_0 l0_1 l0_2 a0_3 a0_4 a0_5 l1_0 l1_1 l1_2 a1_3 a1_4 a1_5 = some r) :
  Calls Try.prog 55 #[.agg #[.slice A0_0 l0_0.length c0_0, .slice A0_1 l0_1.length c0_1, .slice A0_2 l0_2.length c0_2, .int .u8 a0_3, .int .u8 a0_4, .int .u8 a0_5], .agg #[.slice A1_0 l1_0.length c1_0, .slice A1_1 l1_1.length c1_1, .slice A1_2 l1_2.length c1_2, .int .u8 a1_3, .int .u8 a1_4, .int .u8 a1_5]] w fun e w' => e = .returned (.bool r) ∧ Below w.heap.size w w' := by
 have hu61 := Try.underlying61
 have hu47 := Try.underlying47
 have hu56 := Try.underlying56
 have hu57 := Try.underlying57
 have HR0_0 := asd hr0_0
 have HC0_0 := asd hc0_0
 clear hr0_0 hc0_0
 have HR0_1 := asd hr0_1
 have HC0_1 := asd hc0_1
 clear hr0_1 hc0_1
 have HR0_2 := asd hr0_2
 have HC0_2 := asd hc0_2
 clear hr0_2 hc0_2
 have HR1_0 := asd hr1_0
 have HC1_0 := asd hc1_0
 clear hr1_0 hc1_0
 have HR1_1 := asd hr1_1
 have HC1_1 := asd hc1_1
 clear hr1_1 hc1_1
 have HR1_2 := asd hr1_2
 have HC1_2 := asd hc1_2
 clear hr1_2 hc1_2
 have HB := asd (Below.refl w.heap.size w)
 have H : (if (l0_0.length : Int) = (l1_0.length : Int) then (if (l0_1.length : Int) = (l1_1.length : Int) then (if (l0_2.length : Int) = (l1_2.length : Int) then (parcloseref03_samePart.j0 k (!(a0_3 == a1_3) || (!(a0_4 == a1_4) || (!(a0_5 == a1_5)))) l0_0 l0_1 l0_2 a0_3 a0_4 a0_5 l1_0 l1_1 l1_2 a1_3 a1_4 a1_5) else (parcloseref03_samePart.j0 k true l0_0 l0_1 l0_2 a0_3 a0_4 a0_5 l1_0 l1_1 l1_2 a1_3 a1_4 a1_5)) else (parcloseref03_samePart.j0 k true l0_0 l0_1 l0_2 a0_3 a0_4 a0_5 l1_0 l1_1 l1_2 a1_3 a1_4 a1_5)) else (parcloseref03_samePart.j0 k true l0_0 l0_1 l0_2 a0_3 a0_4 a0_5 l1_0 l1_1 l1_2 a1_3 a1_4 a1_5)) = some r := h
 clear h
 have HC3 := asd H
 clear H
 go_enter Try.func55, Try.ntmps55
 go_upto_region 1 with (first | ((with_reducible refine gate_dst (N := 2) rfl ?_); (try (refine gate_guard (by rfl) ?_; dsimp only)); refine box_event ?hg (N := 2) ?hd (cs := #[.slice A0_0 l0_0.length c0_0, .slice A0_1 l0_1.length c0_1, .slice A0_2 l0_2.length c0_2, .int .u8 a0_3, .int .u8 a0_4, .int .u8 a0_5]) (t := 61) ?hr ?_; (case hd => rfl); (case hg => rfl); (case hr => first | (go_simp; done) | (go_simp; rfl)); intro gb225 hg w4 hbox hb; have n0_ := asd (below_step (by repeat (first | (with_reducible first | exact HB.out | apply wa | apply wn | apply wd) | exact HB.out)) hb); have n1_ := asd (hbox); have n2_ := asd ((by rw [hg]; exact (below_size (by repeat (first | (with_reducible first | exact HB.out | apply wa | apply wn | apply wd) | exact HB.out))) : w.heap.size ≤ gb225)); have n3_ := asd ((by rw [hg]; exact (below_size (by repeat (first | (with_reducible first | exact HB.out | apply wa | apply wn | apply wd) | exact HB.out))) : w.heap.size ≤ gb225)); clear HB; have HB := n0_; have BK225 := n1_; have GW225 := n2_; have GE225 := n3_; clear n0_ n1_ n2_ n3_; clear hb hbox hg) | ((with_reducible refine gate_dst (N := 3) rfl ?_); (try (refine gate_guard (by rfl) ?_; dsimp only)); refine box_event ?hg (N := 3) ?hd (cs := #[.slice A1_0 l1_0.length c1_0, .slice A1_1 l1_1.length c1_1, .slice A1_2 l1_2.length c1_2, .int .u8 a1_3, .int .u8 a1_4, .int .u8 a1_5]) (t := 61) ?hr ?_; (case hd => rfl); (case hg => rfl); (case hr => first | (go_simp; done) | (go_simp; rfl)); intro gb226 hg w5 hbox hb; have n0_ := asd (blk_below (g := gb225) (o := .cells #[.slice A0_0 l0_0.length c0_0, .slice A0_1 l0_1.length c0_1, .slice A0_2 l0_2.length c0_2, .int .u8 a0_3, .int .u8 a0_4, .int .u8 a0_5] 61 (0, 0)) (by (with_reducible repeat first | apply bn | apply bd | apply ba); exact BK225.out) hb); have n1_ := asd (below_step (by repeat (first | (with_reducible first | exact HB.out | apply wa | apply wn | apply wd | refine ws ?_ GE225.out) | exact HB.out)) hb); have n2_ := asd (hbox); have n3_ := asd ((by rw [hg]; exact (below_size (by repeat (first | (with_reducible first | exact HB.out | apply wa | apply wn | apply wd | refine ws ?_ GE225.out) | exact HB.out))) : w.heap.size ≤ gb226)); have n4_ := asd ((by rw [hg]; exact (below_size (by repeat (first | (with_reducible first | exact HB.out | apply wa | apply wn | apply wd | refine ws ?_ GE225.out) | exact HB.out))) : w.heap.size ≤ gb226)); have n5_ := asd ((by rw [hg]; exact Nat.ne_of_lt (blk_lt (g := gb225) (o := .cells #[.slice A0_0 l0_0.length c0_0, .slice A0_1 l0_1.length c0_1, .slice A0_2 l0_2.length c0_2, .int .u8 a0_3, .int .u8 a0_4, .int .u8 a0_5] 61 (0, 0)) (by (with_reducible repeat first | apply bn | apply bd | apply ba); exact BK225.out)) : gb225 ≠ gb226)); have n6_ := asd ((by rw [hg]; exact Nat.ne_of_gt (blk_lt (g := gb225) (o := .cells #[.slice A0_0 l0_0.length c0_0, .slice A0_1 l0_1.length c0_1, .slice A0_2 l0_2.length c0_2, .int .u8 a0_3, .int .u8 a0_4, .int .u8 a0_5] 61 (0, 0)) (by (with_reducible repeat first | apply bn | apply bd | apply ba); exact BK225.out)) : gb226 ≠ gb225)); clear BK225; clear HB; have BK225 := n0_; have HB := n1_; have BK226 := n2_; have GW226 := n3_; have GE226 := n4_; have NB225_226 := n5_; have NB226_225 := n6_; clear n0_ n1_ n2_ n3_ n4_ n5_ n6_; clear hb hbox hg))
 repeat (go_quiet (first | ((with_reducible refine gate_dst (N := 2) rfl ?_); (try (refine gate_guard (by rfl) ?_; dsimp only)); refine box_event ?hg (N := 2) ?hd (cs := #[.slice A0_0 l0_0.length c0_0, .slice A0_1 l0_1.length c0_1, .slice A0_2 l0_2.length c0_2, .int .u8 a0_3, .int .u8 a0_4, .int .u8 a0_5]) (t := 61) ?hr ?_; (case hd => rfl); (case hg => rfl); (case hr => first | (go_simp; done) | (go_simp; rfl)); intro gb225 hg w4 hbox hb; have n0_ := asd (below_step (by repeat (first | (with_reducible first | exact HB.out | apply wa | apply wn | apply wd) | exact HB.out)) hb); have n1_ := asd (hbox); have n2_ := asd ((by rw [hg]; exact (below_size (by repeat (first | (with_reducible first | exact HB.out | apply wa | apply wn | apply wd) | exact HB.out))) : w.heap.size ≤ gb225)); have n3_ := asd ((by rw [hg]; exact (below_size (by repeat (first | (with_reducible first | exact HB.out | apply wa | apply wn | apply wd) | exact HB.out))) : w.heap.size ≤ gb225)); clear HB; have HB := n0_; have BK225 := n1_; have GW225 := n2_; have GE225 := n3_; clear n0_ n1_ n2_ n3_; clear hb hbox hg) | ((with_reducible refine gate_dst (N := 3) rfl ?_); (try (refine gate_guard (by rfl) ?_; dsimp only)); refine box_event ?hg (N := 3) ?hd (cs := #[.slice A1_0 l1_0.length c1_0, .slice A1_1 l1_1.length c1_1, .slice A1_2 l1_2.length c1_2, .int .u8 a1_3, .int .u8 a1_4, .int .u8 a1_5]) (t := 61) ?hr ?_; (case hd => rfl); (case hg => rfl); (case hr => first | (go_simp; done) | (go_simp; rfl)); intro gb226 hg w5 hbox hb; have n0_ := asd (blk_below (g := gb225) (o := .cells #[.slice A0_0 l0_0.length c0_0, .slice A0_1 l0_1.length c0_1, .slice A0_2 l0_2.length c0_2, .int .u8 a0_3, .int .u8 a0_4, .int .u8 a0_5] 61 (0, 0)) (by (with_reducible repeat first | apply bn | apply bd | apply ba); exact BK225.out) hb); have n1_ := asd (below_step (by repeat (first | (with_reducible first | exact HB.out | apply wa | apply wn | apply wd | refine ws ?_ GE225.out) | exact HB.out)) hb); have n2_ := asd (hbox); have n3_ := asd ((by rw [hg]; exact (below_size (by repeat (first | (with_reducible first | exact HB.out | apply wa | apply wn | apply wd | refine ws ?_ GE225.out) | exact HB.out))) : w.heap.size ≤ gb226)); have n4_ := asd ((by rw [hg]; exact (below_size (by repeat (first | (with_reducible first | exact HB.out | apply wa | apply wn | apply wd | refine ws ?_ GE225.out) | exact HB.out))) : w.heap.size ≤ gb226)); have n5_ := asd ((by rw [hg]; exact Nat.ne_of_lt (blk_lt (g := gb225) (o := .cells #[.slice A0_0 l0_0.length c0_0, .slice A0_1 l0_1.length c0_1, .slice A0_2 l0_2.length c0_2, .int .u8 a0_3, .int .u8 a0_4, .int .u8 a0_5] 61 (0, 0)) (by (with_reducible repeat first | apply bn | apply bd | apply ba); exact BK225.out)) : gb225 ≠ gb226)); have n6_ := asd ((by rw [hg]; exact Nat.ne_of_gt (blk_lt (g := gb225) (o := .cells #[.slice A0_0 l0_0.length c0_0, .slice A0_1 l0_1.length c0_1, .slice A0_2 l0_2.length c0_2, .int .u8 a0_3, .int .u8 a0_4, .int .u8 a0_5] 61 (0, 0)) (by (with_reducible repeat first | apply bn | apply bd | apply ba); exact BK225.out)) : gb226 ≠ gb225)); clear BK225; clear HB; have BK225 := n0_; have HB := n1_; have BK226 := n2_; have GW226 := n3_; have GE226 := n4_; have NB225_226 := n5_; have NB226_225 := n6_; clear n0_ n1_ n2_ n3_ n4_ n5_ n6_; clear hb hbox hg)); go_upto_region 1 with (first | ((with_reducible refine gate_dst (N := 2) rfl ?_); (try (refine gate_guard (by rfl) ?_; dsimp only)); refine box_event ?hg (N := 2) ?hd (cs := #[.slice A0_0 l0_0.length c0_0, .slice A0_1 l0_1.length c0_1, .slice A0_2 l0_2.length c0_2, .int .u8 a0_3, .int .u8 a0_4, .int .u8 a0_5]) (t := 61) ?hr ?_; (case hd => rfl); (case hg => rfl); (case hr => first | (go_simp; done) | (go_simp; rfl)); intro gb225 hg w4 hbox hb; have n0_ := asd (below_step (by repeat (first | (with_reducible first | exact HB.out | apply wa | apply wn | apply wd) | exact HB.out)) hb); have n1_ := asd (hbox); have n2_ := asd ((by rw [hg]; exact (below_size (by repeat (first | (with_reducible first | exact HB.out | apply wa | apply wn | apply wd) | exact HB.out))) : w.heap.size ≤ gb225)); have n3_ := asd ((by rw [hg]; exact (below_size (by repeat (first | (with_reducible first | exact HB.out | apply wa | apply wn | apply wd) | exact HB.out))) : w.heap.size ≤ gb225)); clear HB; have HB := n0_; have BK225 := n1_; have GW225 := n2_; have GE225 := n3_; clear n0_ n1_ n2_ n3_; clear hb hbox hg) | ((with_reducible refine gate_dst (N := 3) rfl ?_); (try (refine gate_guard (by rfl) ?_; dsimp only)); refine box_event ?hg (N := 3) ?hd (cs := #[.slice A1_0 l1_0.length c1_0, .slice A1_1 l1_1.length c1_1, .slice A1_2 l1_2.length c1_2, .int .u8 a1_3, .int .u8 a1_4, .int .u8 a1_5]) (t := 61) ?hr ?_; (case hd => rfl); (case hg => rfl); (case hr => first | (go_simp; done) | (go_simp; rfl)); intro gb226 hg w5 hbox hb; have n0_ := asd (blk_below (g := gb225) (o := .cells #[.slice A0_0 l0_0.length c0_0, .slice A0_1 l0_1.length c0_1, .slice A0_2 l0_2.length c0_2, .int .u8 a0_3, .int .u8 a0_4, .int .u8 a0_5] 61 (0, 0)) (by (with_reducible repeat first | apply bn | apply bd | apply ba); exact BK225.out) hb); have n1_ := asd (below_step (by repeat (first | (with_reducible first | exact HB.out | apply wa | apply wn | apply wd | refine ws ?_ GE225.out) | exact HB.out)) hb); have n2_ := asd (hbox); have n3_ := asd ((by rw [hg]; exact (below_size (by repeat (first | (with_reducible first | exact HB.out | apply wa | apply wn | apply wd | refine ws ?_ GE225.out) | exact HB.out))) : w.heap.size ≤ gb226)); have n4_ := asd ((by rw [hg]; exact (below_size (by repeat (first | (with_reducible first | exact HB.out | apply wa | apply wn | apply wd | refine ws ?_ GE225.out) | exact HB.out))) : w.heap.size ≤ gb226)); have n5_ := asd ((by rw [hg]; exact Nat.ne_of_lt (blk_lt (g := gb225) (o := .cells #[.slice A0_0 l0_0.length c0_0, .slice A0_1 l0_1.length c0_1, .slice A0_2 l0_2.length c0_2, .int .u8 a0_3, .int .u8 a0_4, .int .u8 a0_5] 61 (0, 0)) (by (with_reducible repeat first | apply bn | apply bd | apply ba); exact BK225.out)) : gb225 ≠ gb226)); have n6_ := asd ((by rw [hg]; exact Nat.ne_of_gt (blk_lt (g := gb225) (o := .cells #[.slice A0_0 l0_0.length c0_0, .slice A0_1 l0_1.length c0_1, .slice A0_2 l0_2.length c0_2, .int .u8 a0_3, .int .u8 a0_4, .int .u8 a0_5] 61 (0, 0)) (by (with_reducible repeat first | apply bn | apply bd | apply ba); exact BK225.out)) : gb226 ≠ gb225)); clear BK225; clear HB; have BK225 := n0_; have HB := n1_; have BK226 := n2_; have GW226 := n3_; have GE226 := n4_; have NB225_226 := n5_; have NB226_225 := n6_; clear n0_ n1_ n2_ n3_ n4_ n5_ n6_; clear hb hbox hg)))
 (try simp only [Act.put, sB])
 go_cut [39] (fun v39 wc => ∃ (kq : Nat) (x39_2 : Bool), v39 = .bool x39_2 ∧ Aside0 (parcloseref03_samePart.j0 kq x39_2 l0_0 l0_1 l0_2 a0_3 a0_4 a0_5 l1_0 l1_1 l1_2 a1_3 a1_4 a1_5 = some r) ∧ Aside0 (kq ≤ k) ∧ Aside0 (wc.heap[gb225]? = some (.cells #[(.slice A0_0 l0_0.length c0_0), (.slice A0_1 l0_1.length c0_1), (.slice A0_2 l0_2.length c0_2), .int .u8 a0_3, .int .u8 a0_4, .int .u8 a0_5] 61 (0, 0))) ∧ Aside0 (wc.heap[gb226]? = some (.cells #[(.slice A1_0 l1_0.length c1_0), (.slice A1_1 l1_1.length c1_1), (.slice A1_2 l1_2.length c1_2), .int .u8 a1_3, .int .u8 a1_4, .int .u8 a1_5] 61 (0, 0))) ∧ Aside0 (Below w.heap.size w wc))
 case first =>
  have H := HC3.out
  clear HC3
  by_cases c6 : (l0_0.length : Int) = (l1_0.length : Int)
  ·rw [if_pos c6] at H
   have c6b0 : ((l0_0.length : Int) == (l1_0.length : Int)) = true := beq_iff_eq.mpr c6
   have c6b1 : ((l0_0.length : Int) != (l1_0.length : Int)) = false := bne_eq_false_iff_eq.mpr c6
   have c6b2 : (l0_0.length == l1_0.length) = true := by first | simpa using c6 | (simp at c6 ⊢; omega)
   clear c6
   (first | rw [c6b0] | (simp only [i64_w, i32_w]; rw [c6b0]) | skip)
   by_cases c7 : (l0_1.length : Int) = (l1_1.length : Int)
   ·rw [if_pos c7] at H
    have c7b0 : ((l0_1.length : Int) == (l1_1.length : Int)) = true := beq_iff_eq.mpr c7
    have c7b1 : ((l0_1.length : Int) != (l1_1.length : Int)) = false := bne_eq_false_iff_eq.mpr c7
    have c7b2 : (l0_1.length == l1_1.length) = true := by first | simpa using c7 | (simp at c7 ⊢; omega)
    clear c7
    by_cases c8 : (l0_2.length : Int) = (l1_2.length : Int)
    ·rw [if_pos c8] at H
     have c8b0 : ((l0_2.length : Int) == (l1_2.length : Int)) = true := beq_iff_eq.mpr c8
     have c8b1 : ((l0_2.length : Int) != (l1_2.length : Int)) = false := bne_eq_false_iff_eq.mpr c8
     have c8b2 : (l0_2.length == l1_2.length) = true := by first | simpa using c8 | (simp at c8 ⊢; omega)
     clear c8
     have H' := asd H
     clear H
     have hnb9 := NB225_226.out
     have hnc9 := NB226_225.out
     have hcz10_0 : w5.cell? ⟨gb225, 0, none⟩ = some (.slice A0_0 l0_0.length c0_0) := (blk_cell BK225.out 0).trans rfl
     have hcz10_1 : w5.cell? ⟨gb225, 1, none⟩ = some (.slice A0_1 l0_1.length c0_1) := (blk_cell BK225.out 1).trans rfl
     have hcz10_2 : w5.cell? ⟨gb225, 2, none⟩ = some (.slice A0_2 l0_2.length c0_2) := (blk_cell BK225.out 2).trans rfl
     have hcz10_3 : w5.cell? ⟨gb225, 3, none⟩ = some (.int .u8 a0_3) := (blk_cell BK225.out 3).trans rfl
     have hcz10_4 : w5.cell? ⟨gb225, 4, none⟩ = some (.int .u8 a0_4) := (blk_cell BK225.out 4).trans rfl
     have hcz10_5 : w5.cell? ⟨gb225, 5, none⟩ = some (.int .u8 a0_5) := (blk_cell BK225.out 5).trans rfl
     have hfz10_0 := blk_frozen BK225.out 0
     have hfz10_1 := blk_frozen BK225.out 1
     have hfz10_2 := blk_frozen BK225.out 2
     have hfz10_3 := blk_frozen BK225.out 3
     have hfz10_4 := blk_frozen BK225.out 4
     have hfz10_5 := blk_frozen BK225.out 5
     have hcz11_0 : w5.cell? ⟨gb226, 0, none⟩ = some (.slice A1_0 l1_0.length c1_0) := (blk_cell BK226.out 0).trans rfl
     have hcz11_1 : w5.cell? ⟨gb226, 1, none⟩ = some (.slice A1_1 l1_1.length c1_1) := (blk_cell BK226.out 1).trans rfl
     have hcz11_2 : w5.cell? ⟨gb226, 2, none⟩ = some (.slice A1_2 l1_2.length c1_2) := (blk_cell BK226.out 2).trans rfl
     have hcz11_3 : w5.cell? ⟨gb226, 3, none⟩ = some (.int .u8 a1_3) := (blk_cell BK226.out 3).trans rfl
     have hcz11_4 : w5.cell? ⟨gb226, 4, none⟩ = some (.int .u8 a1_4) := (blk_cell BK226.out 4).trans rfl
     have hcz11_5 : w5.cell? ⟨gb226, 5, none⟩ = some (.int .u8 a1_5) := (blk_cell BK226.out 5).trans rfl
     have hfz11_0 := blk_frozen BK226.out 0
     have hfz11_1 := blk_frozen BK226.out 1
     have hfz11_2 := blk_frozen BK226.out 2
     have hfz11_3 := blk_frozen BK226.out 3
     have hfz11_4 := blk_frozen BK226.out 4
     have hfz11_5 := blk_frozen BK226.out 5
     go_wp2
     repeat (go_quiet (fail); try go_wp2)
     go_meet
     case rel => exact ⟨_, ((!(a0_3 == a1_3) || (!(a0_4 == a1_4) || (!(a0_5 == a1_5))))), (by first | rfl | (simp; done) | (simp [*]; done)), H', ⟨by first | omega | exact Nat.le_refl _⟩, ⟨by (with_reducible repeat first | apply bn | apply bd | apply ba); exact BK225.out⟩, ⟨by (with_reducible repeat first | apply bn | apply bd | apply ba); exact BK226.out⟩, ⟨by repeat (first | (with_reducible first | exact HB.out | apply wa | apply wn | apply wd | refine ws ?_ GE225.out | refine ws ?_ GE226.out) | exact HB.out)⟩⟩
    ·rw [if_neg c8] at H
     have c8b0 : ((l0_2.length : Int) == (l1_2.length : Int)) = false := beq_eq_false_iff_ne.mpr c8
     have c8b1 : ((l0_2.length : Int) != (l1_2.length : Int)) = true := bne_iff_ne.mpr c8
     have c8b2 : (l0_2.length == l1_2.length) = false := by first | simpa using c8 | (simp at c8 ⊢; omega)
     have H' := asd H
     clear H
     have hnb12 := NB225_226.out
     have hnc12 := NB226_225.out
     have hcz13_0 : w5.cell? ⟨gb225, 0, none⟩ = some (.slice A0_0 l0_0.length c0_0) := (blk_cell BK225.out 0).trans rfl
     have hcz13_1 : w5.cell? ⟨gb225, 1, none⟩ = some (.slice A0_1 l0_1.length c0_1) := (blk_cell BK225.out 1).trans rfl
     have hcz13_2 : w5.cell? ⟨gb225, 2, none⟩ = some (.slice A0_2 l0_2.length c0_2) := (blk_cell BK225.out 2).trans rfl
     have hcz13_3 : w5.cell? ⟨gb225, 3, none⟩ = some (.int .u8 a0_3) := (blk_cell BK225.out 3).trans rfl
     have hcz13_4 : w5.cell? ⟨gb225, 4, none⟩ = some (.int .u8 a0_4) := (blk_cell BK225.out 4).trans rfl
     have hcz13_5 : w5.cell? ⟨gb225, 5, none⟩ = some (.int .u8 a0_5) := (blk_cell BK225.out 5).trans rfl
     have hfz13_0 := blk_frozen BK225.out 0
     have hfz13_1 := blk_frozen BK225.out 1
     have hfz13_2 := blk_frozen BK225.out 2
     have hfz13_3 := blk_frozen BK225.out 3
     have hfz13_4 := blk_frozen BK225.out 4
     have hfz13_5 := blk_frozen BK225.out 5
     have hcz14_0 : w5.cell? ⟨gb226, 0, none⟩ = some (.slice A1_0 l1_0.length c1_0) := (blk_cell BK226.out 0).trans rfl
     have hcz14_1 : w5.cell? ⟨gb226, 1, none⟩ = some (.slice A1_1 l1_1.length c1_1) := (blk_cell BK226.out 1).trans rfl
     have hcz14_2 : w5.cell? ⟨gb226, 2, none⟩ = some (.slice A1_2 l1_2.length c1_2) := (blk_cell BK226.out 2).trans rfl
     have hcz14_3 : w5.cell? ⟨gb226, 3, none⟩ = some (.int .u8 a1_3) := (blk_cell BK226.out 3).trans rfl
     have hcz14_4 : w5.cell? ⟨gb226, 4, none⟩ = some (.int .u8 a1_4) := (blk_cell BK226.out 4).trans rfl
     have hcz14_5 : w5.cell? ⟨gb226, 5, none⟩ = some (.int .u8 a1_5) := (blk_cell BK226.out 5).trans rfl
     have hfz14_0 := blk_frozen BK226.out 0
     have hfz14_1 := blk_frozen BK226.out 1
     have hfz14_2 := blk_frozen BK226.out 2
     have hfz14_3 := blk_frozen BK226.out 3
     have hfz14_4 := blk_frozen BK226.out 4
     have hfz14_5 := blk_frozen BK226.out 5
     go_wp2
     repeat (go_quiet (fail); try go_wp2)
     go_meet
     case rel => exact ⟨_, (true), (by first | rfl | (simp; done) | (simp [*]; done)), H', ⟨by first | omega | exact Nat.le_refl _⟩, ⟨by (with_reducible repeat first | apply bn | apply bd | apply ba); exact BK225.out⟩, ⟨by (with_reducible repeat first | apply bn | apply bd | apply ba); exact BK226.out⟩, ⟨by repeat (first | (with_reducible first | exact HB.out | apply wa | apply wn | apply wd | refine ws ?_ GE225.out | refine ws ?_ GE226.out) | exact HB.out)⟩⟩
   ·rw [if_neg c7] at H
    have c7b0 : ((l0_1.length : Int) == (l1_1.length : Int)) = false := beq_eq_false_iff_ne.mpr c7
    have c7b1 : ((l0_1.length : Int) != (l1_1.length : Int)) = true := bne_iff_ne.mpr c7
    have c7b2 : (l0_1.length == l1_1.length) = false := by first | simpa using c7 | (simp at c7 ⊢; omega)
    have H' := asd H
    clear H
    have hnb15 := NB225_226.out
    have hnc15 := NB226_225.out
    have hcz16_0 : w5.cell? ⟨gb225, 0, none⟩ = some (.slice A0_0 l0_0.length c0_0) := (blk_cell BK225.out 0).trans rfl
    have hcz16_1 : w5.cell? ⟨gb225, 1, none⟩ = some (.slice A0_1 l0_1.length c0_1) := (blk_cell BK225.out 1).trans rfl
    have hcz16_2 : w5.cell? ⟨gb225, 2, none⟩ = some (.slice A0_2 l0_2.length c0_2) := (blk_cell BK225.out 2).trans rfl
    have hcz16_3 : w5.cell? ⟨gb225, 3, none⟩ = some (.int .u8 a0_3) := (blk_cell BK225.out 3).trans rfl
    have hcz16_4 : w5.cell? ⟨gb225, 4, none⟩ = some (.int .u8 a0_4) := (blk_cell BK225.out 4).trans rfl
    have hcz16_5 : w5.cell? ⟨gb225, 5, none⟩ = some (.int .u8 a0_5) := (blk_cell BK225.out 5).trans rfl
    have hfz16_0 := blk_frozen BK225.out 0
    have hfz16_1 := blk_frozen BK225.out 1
    have hfz16_2 := blk_frozen BK225.out 2
    have hfz16_3 := blk_frozen BK225.out 3
    have hfz16_4 := blk_frozen BK225.out 4
    have hfz16_5 := blk_frozen BK225.out 5
    have hcz17_0 : w5.cell? ⟨gb226, 0, none⟩ = some (.slice A1_0 l1_0.length c1_0) := (blk_cell BK226.out 0).trans rfl
    have hcz17_1 : w5.cell? ⟨gb226, 1, none⟩ = some (.slice A1_1 l1_1.length c1_1) := (blk_cell BK226.out 1).trans rfl
    have hcz17_2 : w5.cell? ⟨gb226, 2, none⟩ = some (.slice A1_2 l1_2.length c1_2) := (blk_cell BK226.out 2).trans rfl
    have hcz17_3 : w5.cell? ⟨gb226, 3, none⟩ = some (.int .u8 a1_3) := (blk_cell BK226.out 3).trans rfl
    have hcz17_4 : w5.cell? ⟨gb226, 4, none⟩ = some (.int .u8 a1_4) := (blk_cell BK226.out 4).trans rfl
    have hcz17_5 : w5.cell? ⟨gb226, 5, none⟩ = some (.int .u8 a1_5) := (blk_cell BK226.out 5).trans rfl
    have hfz17_0 := blk_frozen BK226.out 0
    have hfz17_1 := blk_frozen BK226.out 1
    have hfz17_2 := blk_frozen BK226.out 2
    have hfz17_3 := blk_frozen BK226.out 3
    have hfz17_4 := blk_frozen BK226.out 4
    have hfz17_5 := blk_frozen BK226.out 5
    go_wp2
    repeat (go_quiet (fail); try go_wp2)
    go_meet
    case rel => exact ⟨_, (true), (by first | rfl | (simp; done) | (simp [*]; done)), H', ⟨by first | omega | exact Nat.le_refl _⟩, ⟨by (with_reducible repeat first | apply bn | apply bd | apply ba); exact BK225.out⟩, ⟨by (with_reducible repeat first | apply bn | apply bd | apply ba); exact BK226.out⟩, ⟨by repeat (first | (with_reducible first | exact HB.out | apply wa | apply wn | apply wd | refine ws ?_ GE225.out | refine ws ?_ GE226.out) | exact HB.out)⟩⟩
  ·rw [if_neg c6] at H
   have c6b0 : ((l0_0.length : Int) == (l1_0.length : Int)) = false := beq_eq_false_iff_ne.mpr c6
   have c6b1 : ((l0_0.length : Int) != (l1_0.length : Int)) = true := bne_iff_ne.mpr c6
   have c6b2 : (l0_0.length == l1_0.length) = false := by first | simpa using c6 | (simp at c6 ⊢; omega)
   (first | rw [c6b0] | (simp only [i64_w, i32_w]; rw [c6b0]) | skip)
   have H' := asd H
   clear H
   have hnb18 := NB225_226.out
   have hnc18 := NB226_225.out
   have hcz19_0 : w5.cell? ⟨gb225, 0, none⟩ = some (.slice A0_0 l0_0.length c0_0) := (blk_cell BK225.out 0).trans rfl
   have hcz19_1 : w5.cell? ⟨gb225, 1, none⟩ = some (.slice A0_1 l0_1.length c0_1) := (blk_cell BK225.out 1).trans rfl
   have hcz19_2 : w5.cell? ⟨gb225, 2, none⟩ = some (.slice A0_2 l0_2.length c0_2) := (blk_cell BK225.out 2).trans rfl
   have hcz19_3 : w5.cell? ⟨gb225, 3, none⟩ = some (.int .u8 a0_3) := (blk_cell BK225.out 3).trans rfl
   have hcz19_4 : w5.cell? ⟨gb225, 4, none⟩ = some (.int .u8 a0_4) := (blk_cell BK225.out 4).trans rfl
   have hcz19_5 : w5.cell? ⟨gb225, 5, none⟩ = some (.int .u8 a0_5) := (blk_cell BK225.out 5).trans rfl
   have hfz19_0 := blk_frozen BK225.out 0
   have hfz19_1 := blk_frozen BK225.out 1
   have hfz19_2 := blk_frozen BK225.out 2
   have hfz19_3 := blk_frozen BK225.out 3
   have hfz19_4 := blk_frozen BK225.out 4
   have hfz19_5 := blk_frozen BK225.out 5
   have hcz20_0 : w5.cell? ⟨gb226, 0, none⟩ = some (.slice A1_0 l1_0.length c1_0) := (blk_cell BK226.out 0).trans rfl
   have hcz20_1 : w5.cell? ⟨gb226, 1, none⟩ = some (.slice A1_1 l1_1.length c1_1) := (blk_cell BK226.out 1).trans rfl
   have hcz20_2 : w5.cell? ⟨gb226, 2, none⟩ = some (.slice A1_2 l1_2.length c1_2) := (blk_cell BK226.out 2).trans rfl
   have hcz20_3 : w5.cell? ⟨gb226, 3, none⟩ = some (.int .u8 a1_3) := (blk_cell BK226.out 3).trans rfl
   have hcz20_4 : w5.cell? ⟨gb226, 4, none⟩ = some (.int .u8 a1_4) := (blk_cell BK226.out 4).trans rfl
   have hcz20_5 : w5.cell? ⟨gb226, 5, none⟩ = some (.int .u8 a1_5) := (blk_cell BK226.out 5).trans rfl
   have hfz20_0 := blk_frozen BK226.out 0
   have hfz20_1 := blk_frozen BK226.out 1
   have hfz20_2 := blk_frozen BK226.out 2
   have hfz20_3 := blk_frozen BK226.out 3
   have hfz20_4 := blk_frozen BK226.out 4
   have hfz20_5 := blk_frozen BK226.out 5
   go_wp2
   repeat (go_quiet (fail); try go_wp2)
   go_meet
   case rel => exact ⟨_, (true), (by first | rfl | (simp; done) | (simp [*]; done)), H', ⟨by first | omega | exact Nat.le_refl _⟩, ⟨by (with_reducible repeat first | apply bn | apply bd | apply ba); exact BK225.out⟩, ⟨by (with_reducible repeat first | apply bn | apply bd | apply ba); exact BK226.out⟩, ⟨by repeat (first | (with_reducible first | exact HB.out | apply wa | apply wn | apply wd | refine ws ?_ GE225.out | refine ws ?_ GE226.out) | exact HB.out)⟩⟩
 case rest =>
  clear HC3
  try clear c1
  try clear p2
  try clear c5
  try clear c6
  try clear c6b0
  try clear c6b1
  try clear c6b2
  try clear c7
  try clear c7b0
  try clear c7b1
  try clear c7b2
  try clear c8
  try clear c8b0
  try clear c8b1
  try clear c8b2
  try clear c9
  try clear c12
  try clear c15
  try clear c18
  try clear hcz10_0
  try clear hcz10_1
  try clear hcz10_2
  try clear hcz10_3
  try clear hcz10_4
  try clear hcz10_5
  try clear hcz11_0
  try clear hcz11_1
  try clear hcz11_2
  try clear hcz11_3
  try clear hcz11_4
  try clear hcz11_5
  try clear hcz13_0
  try clear hcz13_1
  try clear hcz13_2
  try clear hcz13_3
  try clear hcz13_4
  try clear hcz13_5
  try clear hcz14_0
  try clear hcz14_1
  try clear hcz14_2
  try clear hcz14_3
  try clear hcz14_4
  try clear hcz14_5
  try clear hcz16_0
  try clear hcz16_1
  try clear hcz16_2
  try clear hcz16_3
  try clear hcz16_4
  try clear hcz16_5
  try clear hcz17_0
  try clear hcz17_1
  try clear hcz17_2
  try clear hcz17_3
  try clear hcz17_4
  try clear hcz17_5
  try clear hcz19_0
  try clear hcz19_1
  try clear hcz19_2
  try clear hcz19_3
  try clear hcz19_4
  try clear hcz19_5
  try clear hcz20_0
  try clear hcz20_1
  try clear hcz20_2
  try clear hcz20_3
  try clear hcz20_4
  try clear hcz20_5
  try clear hfz10_0
  try clear hfz10_1
  try clear hfz10_2
  try clear hfz10_3
  try clear hfz10_4
  try clear hfz10_5
  try clear hfz11_0
  try clear hfz11_1
  try clear hfz11_2
  try clear hfz11_3
  try clear hfz11_4
  try clear hfz11_5
  try clear hfz13_0
  try clear hfz13_1
  try clear hfz13_2
  try clear hfz13_3
  try clear hfz13_4
  try clear hfz13_5
  try clear hfz14_0
  try clear hfz14_1
  try clear hfz14_2
  try clear hfz14_3
  try clear hfz14_4
  try clear hfz14_5
  try clear hfz16_0
  try clear hfz16_1
  try clear hfz16_2
  try clear hfz16_3
  try clear hfz16_4
  try clear hfz16_5
  try clear hfz17_0
  try clear hfz17_1
  try clear hfz17_2
  try clear hfz17_3
  try clear hfz17_4
  try clear hfz17_5
  try clear hfz19_0
  try clear hfz19_1
  try clear hfz19_2
  try clear hfz19_3
  try clear hfz19_4
  try clear hfz19_5
  try clear hfz20_0
  try clear hfz20_1
  try clear hfz20_2
  try clear hfz20_3
  try clear hfz20_4
  try clear hfz20_5
  obtain ⟨kq, x39_2, rfl, HA, HJ2, BK225, BK226, HB⟩ := hcut
  cases kq with
  | zero => exact absurd HA.out (by simp [parcloseref03_samePart.j0])
  | succ kj2 =>
   have H := HA.out
   clear HA
   simp only [parcloseref03_samePart.j0] at H
   by_cases c21 : x39_2 = true
   ·subst c21
    have H1 : (some false) = some r := by rw [if_pos rfl] at H; exact H
    clear H
    have H := H1
    clear H1
    obtain rfl := Option.some.inj H
    go_wp2
    repeat (go_quiet (fail); try go_wp2)
    go_ret
    exact ⟨by first | rfl | (simp [*] <;> rfl), by repeat (first | (with_reducible first | exact HB.out | apply wa | apply wn | apply wd | refine ws ?_ GE225.out | refine ws ?_ GE226.out) | exact HB.out)⟩
   ·replace c21 := Bool.eq_false_iff.mpr c21
    subst c21
    have H1 : (parcloseref03_samePart.l0 kj2 0 l0_0 l0_1 l0_2 a0_3 a0_4 a0_5 l1_0 l1_1 l1_2 a1_3 a1_4 a1_5) = some r := by rw [if_neg (show ¬ (false = true) by decide)] at H; exact H
    clear H
    have H := H1
    clear H1
    have H' := asd H
    clear H
    go_wp2
    repeat (go_quiet (fail); try go_wp2)
    go_loopg [5] kj2 (fun kq v5 w' => ∃ (x5_2 : Int), v5 = .int .i64 x5_2 ∧ Aside0 (parcloseref03_samePart.l0 kq x5_2 l0_0 l0_1 l0_2 a0_3 a0_4 a0_5 l1_0 l1_1 l1_2 a1_3 a1_4 a1_5 = some r) ∧ Aside0 (kq ≤ kj2) ∧ Aside0 (w'.heap[gb225]? = some (.cells #[(.slice A0_0 l0_0.length c0_0), (.slice A0_1 l0_1.length c0_1), (.slice A0_2 l0_2.length c0_2), .int .u8 a0_3, .int .u8 a0_4, .int .u8 a0_5] 61 (0, 0))) ∧ Aside0 (w'.heap[gb226]? = some (.cells #[(.slice A1_0 l1_0.length c1_0), (.slice A1_1 l1_1.length c1_1), (.slice A1_2 l1_2.length c1_2), .int .u8 a1_3, .int .u8 a1_4, .int .u8 a1_5] 61 (0, 0))) ∧ Aside0 (Below w.heap.size w w'))
    case atStart => exact ⟨(0), (by first | rfl | (simp; done) | (simp [*]; done)), H', ⟨Nat.le_refl _⟩, ⟨by (with_reducible repeat first | apply bn | apply bd | apply ba); exact BK225.out⟩, ⟨by (with_reducible repeat first | apply bn | apply bd | apply ba); exact BK226.out⟩, ⟨by repeat (first | (with_reducible first | exact HB.out | apply wa | apply wn | apply wd | refine ws ?_ GE225.out | refine ws ?_ GE226.out) | exact HB.out)⟩⟩
    case round =>
     clear H'
     try clear c1
     try clear c2
     try clear p2
     try clear c5
     try clear c6
     try clear c6b0
     try clear c6b1
     try clear c6b2
     try clear c7
     try clear c7b0
     try clear c7b1
     try clear c7b2
     try clear c8
     try clear c8b0
     try clear c8b1
     try clear c8b2
     try clear c9
     try clear c12
     try clear c15
     try clear c18
     try clear c21
     try clear hcz10_0
     try clear hcz10_1
     try clear hcz10_2
     try clear hcz10_3
     try clear hcz10_4
     try clear hcz10_5
     try clear hcz11_0
     try clear hcz11_1
     try clear hcz11_2
     try clear hcz11_3
     try clear hcz11_4
     try clear hcz11_5
     try clear hcz13_0
     try clear hcz13_1
     try clear hcz13_2
     try clear hcz13_3
     try clear hcz13_4
     try clear hcz13_5
     try clear hcz14_0
     try clear hcz14_1
     try clear hcz14_2
     try clear hcz14_3
     try clear hcz14_4
     try clear hcz14_5
     try clear hcz16_0
     try clear hcz16_1
     try clear hcz16_2
     try clear hcz16_3
     try clear hcz16_4
     try clear hcz16_5
     try clear hcz17_0
     try clear hcz17_1
     try clear hcz17_2
     try clear hcz17_3
     try clear hcz17_4
     try clear hcz17_5
     try clear hcz19_0
     try clear hcz19_1
     try clear hcz19_2
     try clear hcz19_3
     try clear hcz19_4
     try clear hcz19_5
     try clear hcz20_0
     try clear hcz20_1
     try clear hcz20_2
     try clear hcz20_3
     try clear hcz20_4
     try clear hcz20_5
     try clear hfz10_0
     try clear hfz10_1
     try clear hfz10_2
     try clear hfz10_3
     try clear hfz10_4
     try clear hfz10_5
     try clear hfz11_0
     try clear hfz11_1
     try clear hfz11_2
     try clear hfz11_3
     try clear hfz11_4
     try clear hfz11_5
     try clear hfz13_0
     try clear hfz13_1
     try clear hfz13_2
     try clear hfz13_3
     try clear hfz13_4
     try clear hfz13_5
     try clear hfz14_0
     try clear hfz14_1
     try clear hfz14_2
     try clear hfz14_3
     try clear hfz14_4
     try clear hfz14_5
     try clear hfz16_0
     try clear hfz16_1
     try clear hfz16_2
     try clear hfz16_3
     try clear hfz16_4
     try clear hfz16_5
     try clear hfz17_0
     try clear hfz17_1
     try clear hfz17_2
     try clear hfz17_3
     try clear hfz17_4
     try clear hfz17_5
     try clear hfz19_0
     try clear hfz19_1
     try clear hfz19_2
     try clear hfz19_3
     try clear hfz19_4
     try clear hfz19_5
     try clear hfz20_0
     try clear hfz20_1
     try clear hfz20_2
     try clear hfz20_3
     try clear hfz20_4
     try clear hfz20_5
     try clear p2
     obtain ⟨x5_2, rfl, HA, HK2, BK225, BK226, HB⟩ := hrel
     cases gk with
     | zero => exact absurd HA.out (by simp [parcloseref03_samePart.l0])
     | succ k2 =>
      have H := HA.out
      clear HA
      simp only [parcloseref03_samePart.l0] at H
      by_cases c22 : x5_2 < (l0_0.length : Int)
      ·rw [if_pos c22] at H
       have c22b0 : decide (x5_2 < (l0_0.length : Int)) = true := decide_eq_true c22
       clear c22
       by_cases c23 : 0 ≤ x5_2
       ·rw [if_pos c23] at H
        have c23b0 : decide (0 ≤ x5_2) = true := decide_eq_true c23
        clear c23
        by_cases c24 : x5_2 < (l1_0.length : Int)
        ·rw [if_pos c24] at H
         have c24b0 : decide (x5_2 < (l1_0.length : Int)) = true := decide_eq_true c24
         clear c24
         by_cases c25 : (!(((rd_T56 l0_0 x5_2).f0) == ((rd_T56 l1_0 x5_2).f0)) || (!(((rd_T56 l0_0 x5_2).f1) == ((rd_T56 l1_0 x5_2).f1)) || (!(((rd_T56 l0_0 x5_2).f2) == ((rd_T56 l1_0 x5_2).f2)) || (!(((rd_T56 l0_0 x5_2).f3) == ((rd_T56 l1_0 x5_2).f3)) || (!(((rd_T56 l0_0 x5_2).f4) == ((rd_T56 l1_0 x5_2).f4)) || (!(((rd_T56 l0_0 x5_2).f5) == ((rd_T56 l1_0 x5_2).f5)))))))) = true
         ·rw [if_pos c25] at H
          have c25b0 : (!(((rd_T56 l0_0 x5_2).f0) == ((rd_T56 l1_0 x5_2).f0)) || (!(((rd_T56 l0_0 x5_2).f1) == ((rd_T56 l1_0 x5_2).f1)) || (!(((rd_T56 l0_0 x5_2).f2) == ((rd_T56 l1_0 x5_2).f2)) || (!(((rd_T56 l0_0 x5_2).f3) == ((rd_T56 l1_0 x5_2).f3)) || (!(((rd_T56 l0_0 x5_2).f4) == ((rd_T56 l1_0 x5_2).f4)) || (!(((rd_T56 l0_0 x5_2).f5) == ((rd_T56 l1_0 x5_2).f5)))))))) = true := c25
          clear c25
          obtain rfl := Option.some.inj H
          have hnb26 := NB225_226.out
          have hnc26 := NB226_225.out
          have hcz27_0 : wr.cell? ⟨gb225, 0, none⟩ = some (.slice A0_0 l0_0.length c0_0) := (blk_cell BK225.out 0).trans rfl
          have hcz27_1 : wr.cell? ⟨gb225, 1, none⟩ = some (.slice A0_1 l0_1.length c0_1) := (blk_cell BK225.out 1).trans rfl
          have hcz27_2 : wr.cell? ⟨gb225, 2, none⟩ = some (.slice A0_2 l0_2.length c0_2) := (blk_cell BK225.out 2).trans rfl
          have hcz27_3 : wr.cell? ⟨gb225, 3, none⟩ = some (.int .u8 a0_3) := (blk_cell BK225.out 3).trans rfl
          have hcz27_4 : wr.cell? ⟨gb225, 4, none⟩ = some (.int .u8 a0_4) := (blk_cell BK225.out 4).trans rfl
          have hcz27_5 : wr.cell? ⟨gb225, 5, none⟩ = some (.int .u8 a0_5) := (blk_cell BK225.out 5).trans rfl
          have hfz27_0 := blk_frozen BK225.out 0
          have hfz27_1 := blk_frozen BK225.out 1
          have hfz27_2 := blk_frozen BK225.out 2
          have hfz27_3 := blk_frozen BK225.out 3
          have hfz27_4 := blk_frozen BK225.out 4
          have hfz27_5 := blk_frozen BK225.out 5
          have p227 : 0 ≤ (x5_2 : Int) := of_decide_eq_true (by assumption)
          have q227 : x5_2 < (l0_0.length : Int) := of_decide_eq_true (by assumption)
          obtain ⟨ad227, e227, hx227_0, hx227_1, hx227_2, hx227_3, hx227_4, hx227_5⟩ := at_T56 HR0_0.out x5_2 p227 q227
          cases e227
          replace hx227_0 := (HB.out.cell (World.block_lt_of_cell? w _ hx227_0)).trans hx227_0
          replace hx227_1 := (HB.out.cell (World.block_lt_of_cell? w _ hx227_1)).trans hx227_1
          replace hx227_2 := (HB.out.cell (World.block_lt_of_cell? w _ hx227_2)).trans hx227_2
          replace hx227_3 := (HB.out.cell (World.block_lt_of_cell? w _ hx227_3)).trans hx227_3
          replace hx227_4 := (HB.out.cell (World.block_lt_of_cell? w _ hx227_4)).trans hx227_4
          replace hx227_5 := (HB.out.cell (World.block_lt_of_cell? w _ hx227_5)).trans hx227_5
          replace p227 := eq_true p227
          replace q227 := eq_true q227
          have hcz28_0 : wr.cell? ⟨gb226, 0, none⟩ = some (.slice A1_0 l1_0.length c1_0) := (blk_cell BK226.out 0).trans rfl
          have hcz28_1 : wr.cell? ⟨gb226, 1, none⟩ = some (.slice A1_1 l1_1.length c1_1) := (blk_cell BK226.out 1).trans rfl
          have hcz28_2 : wr.cell? ⟨gb226, 2, none⟩ = some (.slice A1_2 l1_2.length c1_2) := (blk_cell BK226.out 2).trans rfl
          have hcz28_3 : wr.cell? ⟨gb226, 3, none⟩ = some (.int .u8 a1_3) := (blk_cell BK226.out 3).trans rfl
          have hcz28_4 : wr.cell? ⟨gb226, 4, none⟩ = some (.int .u8 a1_4) := (blk_cell BK226.out 4).trans rfl
          have hcz28_5 : wr.cell? ⟨gb226, 5, none⟩ = some (.int .u8 a1_5) := (blk_cell BK226.out 5).trans rfl
          have hfz28_0 := blk_frozen BK226.out 0
          have hfz28_1 := blk_frozen BK226.out 1
          have hfz28_2 := blk_frozen BK226.out 2
          have hfz28_3 := blk_frozen BK226.out 3
          have hfz28_4 := blk_frozen BK226.out 4
          have hfz28_5 := blk_frozen BK226.out 5
          have p228 : 0 ≤ (x5_2 : Int) := of_decide_eq_true (by assumption)
          have q228 : x5_2 < (l1_0.length : Int) := of_decide_eq_true (by assumption)
          obtain ⟨ad228, e228, hx228_0, hx228_1, hx228_2, hx228_3, hx228_4, hx228_5⟩ := at_T56 HR1_0.out x5_2 p228 q228
          cases e228
          replace hx228_0 := (HB.out.cell (World.block_lt_of_cell? w _ hx228_0)).trans hx228_0
          replace hx228_1 := (HB.out.cell (World.block_lt_of_cell? w _ hx228_1)).trans hx228_1
          replace hx228_2 := (HB.out.cell (World.block_lt_of_cell? w _ hx228_2)).trans hx228_2
          replace hx228_3 := (HB.out.cell (World.block_lt_of_cell? w _ hx228_3)).trans hx228_3
          replace hx228_4 := (HB.out.cell (World.block_lt_of_cell? w _ hx228_4)).trans hx228_4
          replace hx228_5 := (HB.out.cell (World.block_lt_of_cell? w _ hx228_5)).trans hx228_5
          replace p228 := eq_true p228
          replace q228 := eq_true q228
          go_wp2
          repeat (go_quiet (fail); try go_wp2)
          go_ret
          exact ⟨by first | rfl | (simp [*] <;> rfl), by repeat (first | (with_reducible first | exact HB.out | apply wa | apply wn | apply wd | refine ws ?_ GE225.out | refine ws ?_ GE226.out) | exact HB.out)⟩
         ·rw [if_neg c25] at H
          have c25b0 : (!(((rd_T56 l0_0 x5_2).f0) == ((rd_T56 l1_0 x5_2).f0)) || (!(((rd_T56 l0_0 x5_2).f1) == ((rd_T56 l1_0 x5_2).f1)) || (!(((rd_T56 l0_0 x5_2).f2) == ((rd_T56 l1_0 x5_2).f2)) || (!(((rd_T56 l0_0 x5_2).f3) == ((rd_T56 l1_0 x5_2).f3)) || (!(((rd_T56 l0_0 x5_2).f4) == ((rd_T56 l1_0 x5_2).f4)) || (!(((rd_T56 l0_0 x5_2).f5) == ((rd_T56 l1_0 x5_2).f5)))))))) = false := by simpa using c25
          clear c25
          have H' := asd H
          clear H
          have hnb29 := NB225_226.out
          have hnc29 := NB226_225.out
          have hcz30_0 : wr.cell? ⟨gb225, 0, none⟩ = some (.slice A0_0 l0_0.length c0_0) := (blk_cell BK225.out 0).trans rfl
          have hcz30_1 : wr.cell? ⟨gb225, 1, none⟩ = some (.slice A0_1 l0_1.length c0_1) := (blk_cell BK225.out 1).trans rfl
          have hcz30_2 : wr.cell? ⟨gb225, 2, none⟩ = some (.slice A0_2 l0_2.length c0_2) := (blk_cell BK225.out 2).trans rfl
          have hcz30_3 : wr.cell? ⟨gb225, 3, none⟩ = some (.int .u8 a0_3) := (blk_cell BK225.out 3).trans rfl
          have hcz30_4 : wr.cell? ⟨gb225, 4, none⟩ = some (.int .u8 a0_4) := (blk_cell BK225.out 4).trans rfl
          have hcz30_5 : wr.cell? ⟨gb225, 5, none⟩ = some (.int .u8 a0_5) := (blk_cell BK225.out 5).trans rfl
          have hfz30_0 := blk_frozen BK225.out 0
          have hfz30_1 := blk_frozen BK225.out 1
          have hfz30_2 := blk_frozen BK225.out 2
          have hfz30_3 := blk_frozen BK225.out 3
          have hfz30_4 := blk_frozen BK225.out 4
          have hfz30_5 := blk_frozen BK225.out 5
          have p227 : 0 ≤ (x5_2 : Int) := of_decide_eq_true (by assumption)
          have q227 : x5_2 < (l0_0.length : Int) := of_decide_eq_true (by assumption)
          obtain ⟨ad227, e227, hx227_0, hx227_1, hx227_2, hx227_3, hx227_4, hx227_5⟩ := at_T56 HR0_0.out x5_2 p227 q227
          cases e227
          replace hx227_0 := (HB.out.cell (World.block_lt_of_cell? w _ hx227_0)).trans hx227_0
          replace hx227_1 := (HB.out.cell (World.block_lt_of_cell? w _ hx227_1)).trans hx227_1
          replace hx227_2 := (HB.out.cell (World.block_lt_of_cell? w _ hx227_2)).trans hx227_2
          replace hx227_3 := (HB.out.cell (World.block_lt_of_cell? w _ hx227_3)).trans hx227_3
          replace hx227_4 := (HB.out.cell (World.block_lt_of_cell? w _ hx227_4)).trans hx227_4
          replace hx227_5 := (HB.out.cell (World.block_lt_of_cell? w _ hx227_5)).trans hx227_5
          replace p227 := eq_true p227
          replace q227 := eq_true q227
          have hcz31_0 : wr.cell? ⟨gb226, 0, none⟩ = some (.slice A1_0 l1_0.length c1_0) := (blk_cell BK226.out 0).trans rfl
          have hcz31_1 : wr.cell? ⟨gb226, 1, none⟩ = some (.slice A1_1 l1_1.length c1_1) := (blk_cell BK226.out 1).trans rfl
          have hcz31_2 : wr.cell? ⟨gb226, 2, none⟩ = some (.slice A1_2 l1_2.length c1_2) := (blk_cell BK226.out 2).trans rfl
          have hcz31_3 : wr.cell? ⟨gb226, 3, none⟩ = some (.int .u8 a1_3) := (blk_cell BK226.out 3).trans rfl
          have hcz31_4 : wr.cell? ⟨gb226, 4, none⟩ = some (.int .u8 a1_4) := (blk_cell BK226.out 4).trans rfl
          have hcz31_5 : wr.cell? ⟨gb226, 5, none⟩ = some (.int .u8 a1_5) := (blk_cell BK226.out 5).trans rfl
          have hfz31_0 := blk_frozen BK226.out 0
          have hfz31_1 := blk_frozen BK226.out 1
          have hfz31_2 := blk_frozen BK226.out 2
          have hfz31_3 := blk_frozen BK226.out 3
          have hfz31_4 := blk_frozen BK226.out 4
          have hfz31_5 := blk_frozen BK226.out 5
          have p228 : 0 ≤ (x5_2 : Int) := of_decide_eq_true (by assumption)
          have q228 : x5_2 < (l1_0.length : Int) := of_decide_eq_true (by assumption)
          obtain ⟨ad228, e228, hx228_0, hx228_1, hx228_2, hx228_3, hx228_4, hx228_5⟩ := at_T56 HR1_0.out x5_2 p228 q228
          cases e228
          replace hx228_0 := (HB.out.cell (World.block_lt_of_cell? w _ hx228_0)).trans hx228_0
          replace hx228_1 := (HB.out.cell (World.block_lt_of_cell? w _ hx228_1)).trans hx228_1
          replace hx228_2 := (HB.out.cell (World.block_lt_of_cell? w _ hx228_2)).trans hx228_2
          replace hx228_3 := (HB.out.cell (World.block_lt_of_cell? w _ hx228_3)).trans hx228_3
          replace hx228_4 := (HB.out.cell (World.block_lt_of_cell? w _ hx228_4)).trans hx228_4
          replace hx228_5 := (HB.out.cell (World.block_lt_of_cell? w _ hx228_5)).trans hx228_5
          replace p228 := eq_true p228
          replace q228 := eq_true q228
          go_wp2
          repeat (go_quiet (fail); try go_wp2)
          go_roundg k2
          case measure => have := HJ2.out; have := HK2.out; omega
          case rel => exact ⟨(wrap64 (x5_2 + 1)), (by first | rfl | (simp; done) | (simp [*]; done)), H', ⟨by have := HJ2.out; have := HK2.out; omega⟩, ⟨by (with_reducible repeat first | apply bn | apply bd | apply ba); exact BK225.out⟩, ⟨by (with_reducible repeat first | apply bn | apply bd | apply ba); exact BK226.out⟩, ⟨by repeat (first | (with_reducible first | exact HB.out | apply wa | apply wn | apply wd | refine ws ?_ GE225.out | refine ws ?_ GE226.out) | exact HB.out)⟩⟩
        ·rw [if_neg c24] at H
         exact absurd H (by simp)
       ·rw [if_neg c23] at H
        exact absurd H (by simp)
      ·rw [if_neg c22] at H
       have c22b0 : decide (x5_2 < (l0_0.length : Int)) = false := decide_eq_false c22
       clear c22
       have H' := asd H
       clear H
       have hnb32 := NB225_226.out
       have hnc32 := NB226_225.out
       have hcz33_0 : wr.cell? ⟨gb225, 0, none⟩ = some (.slice A0_0 l0_0.length c0_0) := (blk_cell BK225.out 0).trans rfl
       have hcz33_1 : wr.cell? ⟨gb225, 1, none⟩ = some (.slice A0_1 l0_1.length c0_1) := (blk_cell BK225.out 1).trans rfl
       have hcz33_2 : wr.cell? ⟨gb225, 2, none⟩ = some (.slice A0_2 l0_2.length c0_2) := (blk_cell BK225.out 2).trans rfl
       have hcz33_3 : wr.cell? ⟨gb225, 3, none⟩ = some (.int .u8 a0_3) := (blk_cell BK225.out 3).trans rfl
       have hcz33_4 : wr.cell? ⟨gb225, 4, none⟩ = some (.int .u8 a0_4) := (blk_cell BK225.out 4).trans rfl
       have hcz33_5 : wr.cell? ⟨gb225, 5, none⟩ = some (.int .u8 a0_5) := (blk_cell BK225.out 5).trans rfl
       have hfz33_0 := blk_frozen BK225.out 0
       have hfz33_1 := blk_frozen BK225.out 1
       have hfz33_2 := blk_frozen BK225.out 2
       have hfz33_3 := blk_frozen BK225.out 3
       have hfz33_4 := blk_frozen BK225.out 4
       have hfz33_5 := blk_frozen BK225.out 5
       go_wp2
       repeat (go_quiet (fail); try go_wp2)
       go_loopg [6] k2 (fun kq v6 w' => ∃ (x6_3 : Int), v6 = .int .i64 x6_3 ∧ Aside0 (parcloseref03_samePart.l1 kq x6_3 l0_0 l0_1 l0_2 a0_3 a0_4 a0_5 l1_0 l1_1 l1_2 a1_3 a1_4 a1_5 = some r) ∧ Aside0 (kq ≤ k2) ∧ Aside0 (w'.heap[gb225]? = some (.cells #[(.slice A0_0 l0_0.length c0_0), (.slice A0_1 l0_1.length c0_1), (.slice A0_2 l0_2.length c0_2), .int .u8 a0_3, .int .u8 a0_4, .int .u8 a0_5] 61 (0, 0))) ∧ Aside0 (w'.heap[gb226]? = some (.cells #[(.slice A1_0 l1_0.length c1_0), (.slice A1_1 l1_1.length c1_1), (.slice A1_2 l1_2.length c1_2), .int .u8 a1_3, .int .u8 a1_4, .int .u8 a1_5] 61 (0, 0))) ∧ Aside0 (Below w.heap.size w w'))
       case atStart => exact ⟨(0), (by first | rfl | (simp; done) | (simp [*]; done)), H', ⟨Nat.le_refl _⟩, ⟨by (with_reducible repeat first | apply bn | apply bd | apply ba); exact BK225.out⟩, ⟨by (with_reducible repeat first | apply bn | apply bd | apply ba); exact BK226.out⟩, ⟨by repeat (first | (with_reducible first | exact HB.out | apply wa | apply wn | apply wd | refine ws ?_ GE225.out | refine ws ?_ GE226.out) | exact HB.out)⟩⟩
       case round =>
        clear H'
        try clear c1
        try clear c2
        try clear p2
        try clear q2
        try clear hx2
        try clear c3
        try clear c5
        try clear c6
        try clear c6b0
        try clear c6b1
        try clear c6b2
        try clear p6
        try clear c7
        try clear c7b0
        try clear c7b1
        try clear c7b2
        try clear c8
        try clear c8b0
        try clear c8b1
        try clear c8b2
        try clear c9
        try clear c12
        try clear c15
        try clear c18
        try clear c21
        try clear c22
        try clear c22b0
        try clear p22
        try clear q22
        try clear hx22
        try clear c23
        try clear c23b0
        try clear c24
        try clear c24b0
        try clear c25
        try clear c25b0
        try clear c26
        try clear c29
        try clear c32
        try clear hcz10_0
        try clear hcz10_1
        try clear hcz10_2
        try clear hcz10_3
        try clear hcz10_4
        try clear hcz10_5
        try clear hcz11_0
        try clear hcz11_1
        try clear hcz11_2
        try clear hcz11_3
        try clear hcz11_4
        try clear hcz11_5
        try clear hcz13_0
        try clear hcz13_1
        try clear hcz13_2
        try clear hcz13_3
        try clear hcz13_4
        try clear hcz13_5
        try clear hcz14_0
        try clear hcz14_1
        try clear hcz14_2
        try clear hcz14_3
        try clear hcz14_4
        try clear hcz14_5
        try clear hcz16_0
        try clear hcz16_1
        try clear hcz16_2
        try clear hcz16_3
        try clear hcz16_4
        try clear hcz16_5
        try clear hcz17_0
        try clear hcz17_1
        try clear hcz17_2
        try clear hcz17_3
        try clear hcz17_4
        try clear hcz17_5
        try clear hcz19_0
        try clear hcz19_1
        try clear hcz19_2
        try clear hcz19_3
        try clear hcz19_4
        try clear hcz19_5
        try clear hcz20_0
        try clear hcz20_1
        try clear hcz20_2
        try clear hcz20_3
        try clear hcz20_4
        try clear hcz20_5
        try clear hcz27_0
        try clear hcz27_1
        try clear hcz27_2
        try clear hcz27_3
        try clear hcz27_4
        try clear hcz27_5
        try clear hcz28_0
        try clear hcz28_1
        try clear hcz28_2
        try clear hcz28_3
        try clear hcz28_4
        try clear hcz28_5
        try clear hcz30_0
        try clear hcz30_1
        try clear hcz30_2
        try clear hcz30_3
        try clear hcz30_4
        try clear hcz30_5
        try clear hcz31_0
        try clear hcz31_1
        try clear hcz31_2
        try clear hcz31_3
        try clear hcz31_4
        try clear hcz31_5
        try clear hcz33_0
        try clear hcz33_1
        try clear hcz33_2
        try clear hcz33_3
        try clear hcz33_4
        try clear hcz33_5
        try clear hfz10_0
        try clear hfz10_1
        try clear hfz10_2
        try clear hfz10_3
        try clear hfz10_4
        try clear hfz10_5
        try clear hfz11_0
        try clear hfz11_1
        try clear hfz11_2
        try clear hfz11_3
        try clear hfz11_4
        try clear hfz11_5
        try clear hfz13_0
        try clear hfz13_1
        try clear hfz13_2
        try clear hfz13_3
        try clear hfz13_4
        try clear hfz13_5
        try clear hfz14_0
        try clear hfz14_1
        try clear hfz14_2
        try clear hfz14_3
        try clear hfz14_4
        try clear hfz14_5
        try clear hfz16_0
        try clear hfz16_1
        try clear hfz16_2
        try clear hfz16_3
        try clear hfz16_4
        try clear hfz16_5
        try clear hfz17_0
        try clear hfz17_1
        try clear hfz17_2
        try clear hfz17_3
        try clear hfz17_4
        try clear hfz17_5
        try clear hfz19_0
        try clear hfz19_1
        try clear hfz19_2
        try clear hfz19_3
        try clear hfz19_4
        try clear hfz19_5
        try clear hfz20_0
        try clear hfz20_1
        try clear hfz20_2
        try clear hfz20_3
        try clear hfz20_4
        try clear hfz20_5
        try clear hfz27_0
        try clear hfz27_1
        try clear hfz27_2
        try clear hfz27_3
        try clear hfz27_4
        try clear hfz27_5
        try clear hfz28_0
        try clear hfz28_1
        try clear hfz28_2
        try clear hfz28_3
        try clear hfz28_4
        try clear hfz28_5
        try clear hfz30_0
        try clear hfz30_1
        try clear hfz30_2
        try clear hfz30_3
        try clear hfz30_4
        try clear hfz30_5
        try clear hfz31_0
        try clear hfz31_1
        try clear hfz31_2
        try clear hfz31_3
        try clear hfz31_4
        try clear hfz31_5
        try clear hfz33_0
        try clear hfz33_1
        try clear hfz33_2
        try clear hfz33_3
        try clear hfz33_4
        try clear hfz33_5
        try clear hx227_0
        try clear hx227_1
        try clear hx227_2
        try clear hx227_3
        try clear hx227_4
        try clear hx227_5
        try clear hx228_0
        try clear hx228_1
        try clear hx228_2
        try clear hx228_3
        try clear hx228_4
        try clear hx228_5
        try clear p2
        try clear p227
        try clear p228
        try clear q227
        try clear q228
        obtain ⟨x6_3, rfl, HA, HK3, BK225, BK226, HB⟩ := hrel
        cases gk with
        | zero => exact absurd HA.out (by simp [parcloseref03_samePart.l1])
        | succ k3 =>
         have H := HA.out
         clear HA
         simp only [parcloseref03_samePart.l1] at H
         by_cases c34 : x6_3 < (l0_1.length : Int)
         ·rw [if_pos c34] at H
          have c34b0 : decide (x6_3 < (l0_1.length : Int)) = true := decide_eq_true c34
          clear c34
          by_cases c35 : 0 ≤ x6_3
          ·rw [if_pos c35] at H
           have c35b0 : decide (0 ≤ x6_3) = true := decide_eq_true c35
           clear c35
           by_cases c36 : x6_3 < (l1_1.length : Int)
           ·rw [if_pos c36] at H
            have c36b0 : decide (x6_3 < (l1_1.length : Int)) = true := decide_eq_true c36
            clear c36
            by_cases c37 : (!(((rd_T57 l0_1 x6_3).f0) == ((rd_T57 l1_1 x6_3).f0)) || (!(((rd_T57 l0_1 x6_3).f1) == ((rd_T57 l1_1 x6_3).f1)) || (!(((rd_T57 l0_1 x6_3).f2) == ((rd_T57 l1_1 x6_3).f2))))) = true
            ·rw [if_pos c37] at H
             have c37b0 : (!(((rd_T57 l0_1 x6_3).f0) == ((rd_T57 l1_1 x6_3).f0)) || (!(((rd_T57 l0_1 x6_3).f1) == ((rd_T57 l1_1 x6_3).f1)) || (!(((rd_T57 l0_1 x6_3).f2) == ((rd_T57 l1_1 x6_3).f2))))) = true := c37
             clear c37
             obtain rfl := Option.some.inj H
             have hnb38 := NB225_226.out
             have hnc38 := NB226_225.out
             have hcz39_0 : wr.cell? ⟨gb225, 0, none⟩ = some (.slice A0_0 l0_0.length c0_0) := (blk_cell BK225.out 0).trans rfl
             have hcz39_1 : wr.cell? ⟨gb225, 1, none⟩ = some (.slice A0_1 l0_1.length c0_1) := (blk_cell BK225.out 1).trans rfl
             have hcz39_2 : wr.cell? ⟨gb225, 2, none⟩ = some (.slice A0_2 l0_2.length c0_2) := (blk_cell BK225.out 2).trans rfl
             have hcz39_3 : wr.cell? ⟨gb225, 3, none⟩ = some (.int .u8 a0_3) := (blk_cell BK225.out 3).trans rfl
             have hcz39_4 : wr.cell? ⟨gb225, 4, none⟩ = some (.int .u8 a0_4) := (blk_cell BK225.out 4).trans rfl
             have hcz39_5 : wr.cell? ⟨gb225, 5, none⟩ = some (.int .u8 a0_5) := (blk_cell BK225.out 5).trans rfl
             have hfz39_0 := blk_frozen BK225.out 0
             have hfz39_1 := blk_frozen BK225.out 1
             have hfz39_2 := blk_frozen BK225.out 2
             have hfz39_3 := blk_frozen BK225.out 3
             have hfz39_4 := blk_frozen BK225.out 4
             have hfz39_5 := blk_frozen BK225.out 5
             have p229 : 0 ≤ (x6_3 : Int) := of_decide_eq_true (by assumption)
             have q229 : x6_3 < (l0_1.length : Int) := of_decide_eq_true (by assumption)
             obtain ⟨ad229, e229, hx229_0, hx229_1, hx229_2⟩ := at_T57 HR0_1.out x6_3 p229 q229
             cases e229
             replace hx229_0 := (HB.out.cell (World.block_lt_of_cell? w _ hx229_0)).trans hx229_0
             replace hx229_1 := (HB.out.cell (World.block_lt_of_cell? w _ hx229_1)).trans hx229_1
             replace hx229_2 := (HB.out.cell (World.block_lt_of_cell? w _ hx229_2)).trans hx229_2
             replace p229 := eq_true p229
             replace q229 := eq_true q229
             have hcz40_0 : wr.cell? ⟨gb226, 0, none⟩ = some (.slice A1_0 l1_0.length c1_0) := (blk_cell BK226.out 0).trans rfl
             have hcz40_1 : wr.cell? ⟨gb226, 1, none⟩ = some (.slice A1_1 l1_1.length c1_1) := (blk_cell BK226.out 1).trans rfl
             have hcz40_2 : wr.cell? ⟨gb226, 2, none⟩ = some (.slice A1_2 l1_2.length c1_2) := (blk_cell BK226.out 2).trans rfl
             have hcz40_3 : wr.cell? ⟨gb226, 3, none⟩ = some (.int .u8 a1_3) := (blk_cell BK226.out 3).trans rfl
             have hcz40_4 : wr.cell? ⟨gb226, 4, none⟩ = some (.int .u8 a1_4) := (blk_cell BK226.out 4).trans rfl
             have hcz40_5 : wr.cell? ⟨gb226, 5, none⟩ = some (.int .u8 a1_5) := (blk_cell BK226.out 5).trans rfl
             have hfz40_0 := blk_frozen BK226.out 0
             have hfz40_1 := blk_frozen BK226.out 1
             have hfz40_2 := blk_frozen BK226.out 2
             have hfz40_3 := blk_frozen BK226.out 3
             have hfz40_4 := blk_frozen BK226.out 4
             have hfz40_5 := blk_frozen BK226.out 5
             have p230 : 0 ≤ (x6_3 : Int) := of_decide_eq_true (by assumption)
             have q230 : x6_3 < (l1_1.length : Int) := of_decide_eq_true (by assumption)
             obtain ⟨ad230, e230, hx230_0, hx230_1, hx230_2⟩ := at_T57 HR1_1.out x6_3 p230 q230
             cases e230
             replace hx230_0 := (HB.out.cell (World.block_lt_of_cell? w _ hx230_0)).trans hx230_0
             replace hx230_1 := (HB.out.cell (World.block_lt_of_cell? w _ hx230_1)).trans hx230_1
             replace hx230_2 := (HB.out.cell (World.block_lt_of_cell? w _ hx230_2)).trans hx230_2
             replace p230 := eq_true p230
             replace q230 := eq_true q230
             go_wp2
             repeat (go_quiet (fail); try go_wp2)
             go_ret
             exact ⟨by first | rfl | (simp [*] <;> rfl), by repeat (first | (with_reducible first | exact HB.out | apply wa | apply wn | apply wd | refine ws ?_ GE225.out | refine ws ?_ GE226.out) | exact HB.out)⟩
            ·rw [if_neg c37] at H
             have c37b0 : (!(((rd_T57 l0_1 x6_3).f0) == ((rd_T57 l1_1 x6_3).f0)) || (!(((rd_T57 l0_1 x6_3).f1) == ((rd_T57 l1_1 x6_3).f1)) || (!(((rd_T57 l0_1 x6_3).f2) == ((rd_T57 l1_1 x6_3).f2))))) = false := by simpa using c37
             clear c37
             have H' := asd H
             clear H
             have hnb41 := NB225_226.out
             have hnc41 := NB226_225.out
             have hcz42_0 : wr.cell? ⟨gb225, 0, none⟩ = some (.slice A0_0 l0_0.length c0_0) := (blk_cell BK225.out 0).trans rfl
             have hcz42_1 : wr.cell? ⟨gb225, 1, none⟩ = some (.slice A0_1 l0_1.length c0_1) := (blk_cell BK225.out 1).trans rfl
             have hcz42_2 : wr.cell? ⟨gb225, 2, none⟩ = some (.slice A0_2 l0_2.length c0_2) := (blk_cell BK225.out 2).trans rfl
             have hcz42_3 : wr.cell? ⟨gb225, 3, none⟩ = some (.int .u8 a0_3) := (blk_cell BK225.out 3).trans rfl
             have hcz42_4 : wr.cell? ⟨gb225, 4, none⟩ = some (.int .u8 a0_4) := (blk_cell BK225.out 4).trans rfl
             have hcz42_5 : wr.cell? ⟨gb225, 5, none⟩ = some (.int .u8 a0_5) := (blk_cell BK225.out 5).trans rfl
             have hfz42_0 := blk_frozen BK225.out 0
             have hfz42_1 := blk_frozen BK225.out 1
             have hfz42_2 := blk_frozen BK225.out 2
             have hfz42_3 := blk_frozen BK225.out 3
             have hfz42_4 := blk_frozen BK225.out 4
             have hfz42_5 := blk_frozen BK225.out 5
             have p229 : 0 ≤ (x6_3 : Int) := of_decide_eq_true (by assumption)
             have q229 : x6_3 < (l0_1.length : Int) := of_decide_eq_true (by assumption)
             obtain ⟨ad229, e229, hx229_0, hx229_1, hx229_2⟩ := at_T57 HR0_1.out x6_3 p229 q229
             cases e229
             replace hx229_0 := (HB.out.cell (World.block_lt_of_cell? w _ hx229_0)).trans hx229_0
             replace hx229_1 := (HB.out.cell (World.block_lt_of_cell? w _ hx229_1)).trans hx229_1
             replace hx229_2 := (HB.out.cell (World.block_lt_of_cell? w _ hx229_2)).trans hx229_2
             replace p229 := eq_true p229
             replace q229 := eq_true q229
             have hcz43_0 : wr.cell? ⟨gb226, 0, none⟩ = some (.slice A1_0 l1_0.length c1_0) := (blk_cell BK226.out 0).trans rfl
             have hcz43_1 : wr.cell? ⟨gb226, 1, none⟩ = some (.slice A1_1 l1_1.length c1_1) := (blk_cell BK226.out 1).trans rfl
             have hcz43_2 : wr.cell? ⟨gb226, 2, none⟩ = some (.slice A1_2 l1_2.length c1_2) := (blk_cell BK226.out 2).trans rfl
             have hcz43_3 : wr.cell? ⟨gb226, 3, none⟩ = some (.int .u8 a1_3) := (blk_cell BK226.out 3).trans rfl
             have hcz43_4 : wr.cell? ⟨gb226, 4, none⟩ = some (.int .u8 a1_4) := (blk_cell BK226.out 4).trans rfl
             have hcz43_5 : wr.cell? ⟨gb226, 5, none⟩ = some (.int .u8 a1_5) := (blk_cell BK226.out 5).trans rfl
             have hfz43_0 := blk_frozen BK226.out 0
             have hfz43_1 := blk_frozen BK226.out 1
             have hfz43_2 := blk_frozen BK226.out 2
             have hfz43_3 := blk_frozen BK226.out 3
             have hfz43_4 := blk_frozen BK226.out 4
             have hfz43_5 := blk_frozen BK226.out 5
             have p230 : 0 ≤ (x6_3 : Int) := of_decide_eq_true (by assumption)
             have q230 : x6_3 < (l1_1.length : Int) := of_decide_eq_true (by assumption)
             obtain ⟨ad230, e230, hx230_0, hx230_1, hx230_2⟩ := at_T57 HR1_1.out x6_3 p230 q230
             cases e230
             replace hx230_0 := (HB.out.cell (World.block_lt_of_cell? w _ hx230_0)).trans hx230_0
             replace hx230_1 := (HB.out.cell (World.block_lt_of_cell? w _ hx230_1)).trans hx230_1
             replace hx230_2 := (HB.out.cell (World.block_lt_of_cell? w _ hx230_2)).trans hx230_2
             replace p230 := eq_true p230
             replace q230 := eq_true q230
             go_wp2
             repeat (go_quiet (fail); try go_wp2)
             go_roundg k3
             case measure => have := HJ2.out; have := HK2.out; have := HK3.out; omega
             case rel => exact ⟨(wrap64 (x6_3 + 1)), (by first | rfl | (simp; done) | (simp [*]; done)), H', ⟨by have := HJ2.out; have := HK2.out; have := HK3.out; omega⟩, ⟨by (with_reducible repeat first | apply bn | apply bd | apply ba); exact BK225.out⟩, ⟨by (with_reducible repeat first | apply bn | apply bd | apply ba); exact BK226.out⟩, ⟨by repeat (first | (with_reducible first | exact HB.out | apply wa | apply wn | apply wd | refine ws ?_ GE225.out | refine ws ?_ GE226.out) | exact HB.out)⟩⟩
           ·rw [if_neg c36] at H
            exact absurd H (by simp)
          ·rw [if_neg c35] at H
           exact absurd H (by simp)
         ·rw [if_neg c34] at H
          have c34b0 : decide (x6_3 < (l0_1.length : Int)) = false := decide_eq_false c34
          clear c34
          have H' := asd H
          clear H
          have hnb44 := NB225_226.out
          have hnc44 := NB226_225.out
          have hcz45_0 : wr.cell? ⟨gb225, 0, none⟩ = some (.slice A0_0 l0_0.length c0_0) := (blk_cell BK225.out 0).trans rfl
          have hcz45_1 : wr.cell? ⟨gb225, 1, none⟩ = some (.slice A0_1 l0_1.length c0_1) := (blk_cell BK225.out 1).trans rfl
          have hcz45_2 : wr.cell? ⟨gb225, 2, none⟩ = some (.slice A0_2 l0_2.length c0_2) := (blk_cell BK225.out 2).trans rfl
          have hcz45_3 : wr.cell? ⟨gb225, 3, none⟩ = some (.int .u8 a0_3) := (blk_cell BK225.out 3).trans rfl
          have hcz45_4 : wr.cell? ⟨gb225, 4, none⟩ = some (.int .u8 a0_4) := (blk_cell BK225.out 4).trans rfl
          have hcz45_5 : wr.cell? ⟨gb225, 5, none⟩ = some (.int .u8 a0_5) := (blk_cell BK225.out 5).trans rfl
          have hfz45_0 := blk_frozen BK225.out 0
          have hfz45_1 := blk_frozen BK225.out 1
          have hfz45_2 := blk_frozen BK225.out 2
          have hfz45_3 := blk_frozen BK225.out 3
          have hfz45_4 := blk_frozen BK225.out 4
          have hfz45_5 := blk_frozen BK225.out 5
          go_wp2
          repeat (go_quiet (fail); try go_wp2)
          go_loopg [7] k3 (fun kq v7 w' => ∃ (x7_4 : Int), v7 = .int .i64 x7_4 ∧ Aside0 (parcloseref03_samePart.l2 kq x7_4 l0_0 l0_1 l0_2 a0_3 a0_4 a0_5 l1_0 l1_1 l1_2 a1_3 a1_4 a1_5 = some r) ∧ Aside0 (kq ≤ k3) ∧ Aside0 (w'.heap[gb225]? = some (.cells #[(.slice A0_0 l0_0.length c0_0), (.slice A0_1 l0_1.length c0_1), (.slice A0_2 l0_2.length c0_2), .int .u8 a0_3, .int .u8 a0_4, .int .u8 a0_5] 61 (0, 0))) ∧ Aside0 (w'.heap[gb226]? = some (.cells #[(.slice A1_0 l1_0.length c1_0), (.slice A1_1 l1_1.length c1_1), (.slice A1_2 l1_2.length c1_2), .int .u8 a1_3, .int .u8 a1_4, .int .u8 a1_5] 61 (0, 0))) ∧ Aside0 (Below w.heap.size w w'))
          case atStart => exact ⟨(0), (by first | rfl | (simp; done) | (simp [*]; done)), H', ⟨Nat.le_refl _⟩, ⟨by (with_reducible repeat first | apply bn | apply bd | apply ba); exact BK225.out⟩, ⟨by (with_reducible repeat first | apply bn | apply bd | apply ba); exact BK226.out⟩, ⟨by repeat (first | (with_reducible first | exact HB.out | apply wa | apply wn | apply wd | refine ws ?_ GE225.out | refine ws ?_ GE226.out) | exact HB.out)⟩⟩
          case round =>
           clear H'
           try clear c1
           try clear c2
           try clear p2
           try clear q2
           try clear hx2
           try clear c3
           try clear c4
           try clear c5
           try clear c6
           try clear c6b0
           try clear c6b1
           try clear c6b2
           try clear p6
           try clear c7
           try clear c7b0
           try clear c7b1
           try clear c7b2
           try clear c8
           try clear c8b0
           try clear c8b1
           try clear c8b2
           try clear c9
           try clear c12
           try clear c15
           try clear c18
           try clear c21
           try clear c22
           try clear c22b0
           try clear p22
           try clear q22
           try clear hx22
           try clear c23
           try clear c23b0
           try clear p23
           try clear q23
           try clear hx23
           try clear c24
           try clear c24b0
           try clear c25
           try clear c25b0
           try clear c26
           try clear c29
           try clear c32
           try clear c34
           try clear c34b0
           try clear c35
           try clear c35b0
           try clear c36
           try clear c36b0
           try clear c37
           try clear c37b0
           try clear c38
           try clear c41
           try clear c44
           try clear hcz10_0
           try clear hcz10_1
           try clear hcz10_2
           try clear hcz10_3
           try clear hcz10_4
           try clear hcz10_5
           try clear hcz11_0
           try clear hcz11_1
           try clear hcz11_2
           try clear hcz11_3
           try clear hcz11_4
           try clear hcz11_5
           try clear hcz13_0
           try clear hcz13_1
           try clear hcz13_2
           try clear hcz13_3
           try clear hcz13_4
           try clear hcz13_5
           try clear hcz14_0
           try clear hcz14_1
           try clear hcz14_2
           try clear hcz14_3
           try clear hcz14_4
           try clear hcz14_5
           try clear hcz16_0
           try clear hcz16_1
           try clear hcz16_2
           try clear hcz16_3
           try clear hcz16_4
           try clear hcz16_5
           try clear hcz17_0
           try clear hcz17_1
           try clear hcz17_2
           try clear hcz17_3
           try clear hcz17_4
           try clear hcz17_5
           try clear hcz19_0
           try clear hcz19_1
           try clear hcz19_2
           try clear hcz19_3
           try clear hcz19_4
           try clear hcz19_5
           try clear hcz20_0
           try clear hcz20_1
           try clear hcz20_2
           try clear hcz20_3
           try clear hcz20_4
           try clear hcz20_5
           try clear hcz27_0
           try clear hcz27_1
           try clear hcz27_2
           try clear hcz27_3
           try clear hcz27_4
           try clear hcz27_5
           try clear hcz28_0
           try clear hcz28_1
           try clear hcz28_2
           try clear hcz28_3
           try clear hcz28_4
           try clear hcz28_5
           try clear hcz30_0
           try clear hcz30_1
           try clear hcz30_2
           try clear hcz30_3
           try clear hcz30_4
           try clear hcz30_5
           try clear hcz31_0
           try clear hcz31_1
           try clear hcz31_2
           try clear hcz31_3
           try clear hcz31_4
           try clear hcz31_5
           try clear hcz33_0
           try clear hcz33_1
           try clear hcz33_2
           try clear hcz33_3
           try clear hcz33_4
           try clear hcz33_5
           try clear hcz39_0
           try clear hcz39_1
           try clear hcz39_2
           try clear hcz39_3
           try clear hcz39_4
           try clear hcz39_5
           try clear hcz40_0
           try clear hcz40_1
           try clear hcz40_2
           try clear hcz40_3
           try clear hcz40_4
           try clear hcz40_5
           try clear hcz42_0
           try clear hcz42_1
           try clear hcz42_2
           try clear hcz42_3
           try clear hcz42_4
           try clear hcz42_5
           try clear hcz43_0
           try clear hcz43_1
           try clear hcz43_2
           try clear hcz43_3
           try clear hcz43_4
           try clear hcz43_5
           try clear hcz45_0
           try clear hcz45_1
           try clear hcz45_2
           try clear hcz45_3
           try clear hcz45_4
           try clear hcz45_5
           try clear hfz10_0
           try clear hfz10_1
           try clear hfz10_2
           try clear hfz10_3
           try clear hfz10_4
           try clear hfz10_5
           try clear hfz11_0
           try clear hfz11_1
           try clear hfz11_2
           try clear hfz11_3
           try clear hfz11_4
           try clear hfz11_5
           try clear hfz13_0
           try clear hfz13_1
           try clear hfz13_2
           try clear hfz13_3
           try clear hfz13_4
           try clear hfz13_5
           try clear hfz14_0
           try clear hfz14_1
           try clear hfz14_2
           try clear hfz14_3
           try clear hfz14_4
           try clear hfz14_5
           try clear hfz16_0
           try clear hfz16_1
           try clear hfz16_2
           try clear hfz16_3
           try clear hfz16_4
           try clear hfz16_5
           try clear hfz17_0
           try clear hfz17_1
           try clear hfz17_2
           try clear hfz17_3
           try clear hfz17_4
           try clear hfz17_5
           try clear hfz19_0
           try clear hfz19_1
           try clear hfz19_2
           try clear hfz19_3
           try clear hfz19_4
           try clear hfz19_5
           try clear hfz20_0
           try clear hfz20_1
           try clear hfz20_2
           try clear hfz20_3
           try clear hfz20_4
           try clear hfz20_5
           try clear hfz27_0
           try clear hfz27_1
           try clear hfz27_2
           try clear hfz27_3
           try clear hfz27_4
           try clear hfz27_5
           try clear hfz28_0
           try clear hfz28_1
           try clear hfz28_2
           try clear hfz28_3
           try clear hfz28_4
           try clear hfz28_5
           try clear hfz30_0
           try clear hfz30_1
           try clear hfz30_2
           try clear hfz30_3
           try clear hfz30_4
           try clear hfz30_5
           try clear hfz31_0
           try clear hfz31_1
           try clear hfz31_2
           try clear hfz31_3
           try clear hfz31_4
           try clear hfz31_5
           try clear hfz33_0
           try clear hfz33_1
           try clear hfz33_2
           try clear hfz33_3
           try clear hfz33_4
           try clear hfz33_5
           try clear hfz39_0
           try clear hfz39_1
           try clear hfz39_2
           try clear hfz39_3
           try clear hfz39_4
           try clear hfz39_5
           try clear hfz40_0
           try clear hfz40_1
           try clear hfz40_2
           try clear hfz40_3
           try clear hfz40_4
           try clear hfz40_5
           try clear hfz42_0
           try clear hfz42_1
           try clear hfz42_2
           try clear hfz42_3
           try clear hfz42_4
           try clear hfz42_5
           try clear hfz43_0
           try clear hfz43_1
           try clear hfz43_2
           try clear hfz43_3
           try clear hfz43_4
           try clear hfz43_5
           try clear hfz45_0
           try clear hfz45_1
           try clear hfz45_2
           try clear hfz45_3
           try clear hfz45_4
           try clear hfz45_5
           try clear hx227_0
           try clear hx227_1
           try clear hx227_2
           try clear hx227_3
           try clear hx227_4
           try clear hx227_5
           try clear hx228_0
           try clear hx228_1
           try clear hx228_2
           try clear hx228_3
           try clear hx228_4
           try clear hx228_5
           try clear hx229_0
           try clear hx229_1
           try clear hx229_2
           try clear hx230_0
           try clear hx230_1
           try clear hx230_2
           try clear p2
           try clear p22
           try clear p227
           try clear p228
           try clear p229
           try clear p230
           try clear p6
           try clear q2
           try clear q22
           try clear q227
           try clear q228
           try clear q229
           try clear q230
           obtain ⟨x7_4, rfl, HA, HK4, BK225, BK226, HB⟩ := hrel
           cases gk with
           | zero => exact absurd HA.out (by simp [parcloseref03_samePart.l2])
           | succ k4 =>
            have H := HA.out
            clear HA
            simp only [parcloseref03_samePart.l2] at H
            by_cases c46 : x7_4 < (l0_2.length : Int)
            ·rw [if_pos c46] at H
             have c46b0 : decide (x7_4 < (l0_2.length : Int)) = true := decide_eq_true c46
             clear c46
             by_cases c47 : 0 ≤ x7_4
             ·rw [if_pos c47] at H
              have c47b0 : decide (0 ≤ x7_4) = true := decide_eq_true c47
              clear c47
              by_cases c48 : x7_4 < (l1_2.length : Int)
              ·rw [if_pos c48] at H
               have c48b0 : decide (x7_4 < (l1_2.length : Int)) = true := decide_eq_true c48
               clear c48
               by_cases c49 : (rd l0_2 x7_4) = (rd l1_2 x7_4)
               ·rw [if_pos c49] at H
                have c49b0 : ((rd l0_2 x7_4) == (rd l1_2 x7_4)) = true := beq_iff_eq.mpr c49
                have c49b1 : ((rd l0_2 x7_4) != (rd l1_2 x7_4)) = false := bne_eq_false_iff_eq.mpr c49
                clear c49
                have H' := asd H
                clear H
                have hnb50 := NB225_226.out
                have hnc50 := NB226_225.out
                have hcz51_0 : wr.cell? ⟨gb225, 0, none⟩ = some (.slice A0_0 l0_0.length c0_0) := (blk_cell BK225.out 0).trans rfl
                have hcz51_1 : wr.cell? ⟨gb225, 1, none⟩ = some (.slice A0_1 l0_1.length c0_1) := (blk_cell BK225.out 1).trans rfl
                have hcz51_2 : wr.cell? ⟨gb225, 2, none⟩ = some (.slice A0_2 l0_2.length c0_2) := (blk_cell BK225.out 2).trans rfl
                have hcz51_3 : wr.cell? ⟨gb225, 3, none⟩ = some (.int .u8 a0_3) := (blk_cell BK225.out 3).trans rfl
                have hcz51_4 : wr.cell? ⟨gb225, 4, none⟩ = some (.int .u8 a0_4) := (blk_cell BK225.out 4).trans rfl
                have hcz51_5 : wr.cell? ⟨gb225, 5, none⟩ = some (.int .u8 a0_5) := (blk_cell BK225.out 5).trans rfl
                have hfz51_0 := blk_frozen BK225.out 0
                have hfz51_1 := blk_frozen BK225.out 1
                have hfz51_2 := blk_frozen BK225.out 2
                have hfz51_3 := blk_frozen BK225.out 3
                have hfz51_4 := blk_frozen BK225.out 4
                have hfz51_5 := blk_frozen BK225.out 5
                have p231 : 0 ≤ (x7_4 : Int) := of_decide_eq_true (by assumption)
                have q231 : x7_4 < (l0_2.length : Int) := of_decide_eq_true (by assumption)
                obtain ⟨ad231, e231, hx231_0⟩ := Kd.at_int HR0_2.out x7_4 p231 q231
                cases e231
                replace hx231_0 := (HB.out.cell (World.block_lt_of_cell? w _ hx231_0)).trans hx231_0
                replace p231 := eq_true p231
                replace q231 := eq_true q231
                have hcz52_0 : wr.cell? ⟨gb226, 0, none⟩ = some (.slice A1_0 l1_0.length c1_0) := (blk_cell BK226.out 0).trans rfl
                have hcz52_1 : wr.cell? ⟨gb226, 1, none⟩ = some (.slice A1_1 l1_1.length c1_1) := (blk_cell BK226.out 1).trans rfl
                have hcz52_2 : wr.cell? ⟨gb226, 2, none⟩ = some (.slice A1_2 l1_2.length c1_2) := (blk_cell BK226.out 2).trans rfl
                have hcz52_3 : wr.cell? ⟨gb226, 3, none⟩ = some (.int .u8 a1_3) := (blk_cell BK226.out 3).trans rfl
                have hcz52_4 : wr.cell? ⟨gb226, 4, none⟩ = some (.int .u8 a1_4) := (blk_cell BK226.out 4).trans rfl
                have hcz52_5 : wr.cell? ⟨gb226, 5, none⟩ = some (.int .u8 a1_5) := (blk_cell BK226.out 5).trans rfl
                have hfz52_0 := blk_frozen BK226.out 0
                have hfz52_1 := blk_frozen BK226.out 1
                have hfz52_2 := blk_frozen BK226.out 2
                have hfz52_3 := blk_frozen BK226.out 3
                have hfz52_4 := blk_frozen BK226.out 4
                have hfz52_5 := blk_frozen BK226.out 5
                have p232 : 0 ≤ (x7_4 : Int) := of_decide_eq_true (by assumption)
                have q232 : x7_4 < (l1_2.length : Int) := of_decide_eq_true (by assumption)
                obtain ⟨ad232, e232, hx232_0⟩ := Kd.at_int HR1_2.out x7_4 p232 q232
                cases e232
                replace hx232_0 := (HB.out.cell (World.block_lt_of_cell? w _ hx232_0)).trans hx232_0
                replace p232 := eq_true p232
                replace q232 := eq_true q232
                go_wp2
                repeat (go_quiet (fail); try go_wp2)
                go_roundg k4
                case measure => have := HJ2.out; have := HK2.out; have := HK3.out; have := HK4.out; omega
                case rel => exact ⟨(wrap64 (x7_4 + 1)), (by first | rfl | (simp; done) | (simp [*]; done)), H', ⟨by have := HJ2.out; have := HK2.out; have := HK3.out; have := HK4.out; omega⟩, ⟨by (with_reducible repeat first | apply bn | apply bd | apply ba); exact BK225.out⟩, ⟨by (with_reducible repeat first | apply bn | apply bd | apply ba); exact BK226.out⟩, ⟨by repeat (first | (with_reducible first | exact HB.out | apply wa | apply wn | apply wd | refine ws ?_ GE225.out | refine ws ?_ GE226.out) | exact HB.out)⟩⟩
               ·rw [if_neg c49] at H
                have c49b0 : ((rd l0_2 x7_4) == (rd l1_2 x7_4)) = false := beq_eq_false_iff_ne.mpr c49
                have c49b1 : ((rd l0_2 x7_4) != (rd l1_2 x7_4)) = true := bne_iff_ne.mpr c49
                obtain rfl := Option.some.inj H
                have hnb53 := NB225_226.out
                have hnc53 := NB226_225.out
                have hcz54_0 : wr.cell? ⟨gb225, 0, none⟩ = some (.slice A0_0 l0_0.length c0_0) := (blk_cell BK225.out 0).trans rfl
                have hcz54_1 : wr.cell? ⟨gb225, 1, none⟩ = some (.slice A0_1 l0_1.length c0_1) := (blk_cell BK225.out 1).trans rfl
                have hcz54_2 : wr.cell? ⟨gb225, 2, none⟩ = some (.slice A0_2 l0_2.length c0_2) := (blk_cell BK225.out 2).trans rfl
                have hcz54_3 : wr.cell? ⟨gb225, 3, none⟩ = some (.int .u8 a0_3) := (blk_cell BK225.out 3).trans rfl
                have hcz54_4 : wr.cell? ⟨gb225, 4, none⟩ = some (.int .u8 a0_4) := (blk_cell BK225.out 4).trans rfl
                have hcz54_5 : wr.cell? ⟨gb225, 5, none⟩ = some (.int .u8 a0_5) := (blk_cell BK225.out 5).trans rfl
                have hfz54_0 := blk_frozen BK225.out 0
                have hfz54_1 := blk_frozen BK225.out 1
                have hfz54_2 := blk_frozen BK225.out 2
                have hfz54_3 := blk_frozen BK225.out 3
                have hfz54_4 := blk_frozen BK225.out 4
                have hfz54_5 := blk_frozen BK225.out 5
                have p231 : 0 ≤ (x7_4 : Int) := of_decide_eq_true (by assumption)
                have q231 : x7_4 < (l0_2.length : Int) := of_decide_eq_true (by assumption)
                obtain ⟨ad231, e231, hx231_0⟩ := Kd.at_int HR0_2.out x7_4 p231 q231
                cases e231
                replace hx231_0 := (HB.out.cell (World.block_lt_of_cell? w _ hx231_0)).trans hx231_0
                replace p231 := eq_true p231
                replace q231 := eq_true q231
                have hcz55_0 : wr.cell? ⟨gb226, 0, none⟩ = some (.slice A1_0 l1_0.length c1_0) := (blk_cell BK226.out 0).trans rfl
                have hcz55_1 : wr.cell? ⟨gb226, 1, none⟩ = some (.slice A1_1 l1_1.length c1_1) := (blk_cell BK226.out 1).trans rfl
                have hcz55_2 : wr.cell? ⟨gb226, 2, none⟩ = some (.slice A1_2 l1_2.length c1_2) := (blk_cell BK226.out 2).trans rfl
                have hcz55_3 : wr.cell? ⟨gb226, 3, none⟩ = some (.int .u8 a1_3) := (blk_cell BK226.out 3).trans rfl
                have hcz55_4 : wr.cell? ⟨gb226, 4, none⟩ = some (.int .u8 a1_4) := (blk_cell BK226.out 4).trans rfl
                have hcz55_5 : wr.cell? ⟨gb226, 5, none⟩ = some (.int .u8 a1_5) := (blk_cell BK226.out 5).trans rfl
                have hfz55_0 := blk_frozen BK226.out 0
                have hfz55_1 := blk_frozen BK226.out 1
                have hfz55_2 := blk_frozen BK226.out 2
                have hfz55_3 := blk_frozen BK226.out 3
                have hfz55_4 := blk_frozen BK226.out 4
                have hfz55_5 := blk_frozen BK226.out 5
                have p232 : 0 ≤ (x7_4 : Int) := of_decide_eq_true (by assumption)
                have q232 : x7_4 < (l1_2.length : Int) := of_decide_eq_true (by assumption)
                obtain ⟨ad232, e232, hx232_0⟩ := Kd.at_int HR1_2.out x7_4 p232 q232
                cases e232
                replace hx232_0 := (HB.out.cell (World.block_lt_of_cell? w _ hx232_0)).trans hx232_0
                replace p232 := eq_true p232
                replace q232 := eq_true q232
                go_wp2
                repeat (go_quiet (fail); try go_wp2)
                go_ret
                exact ⟨by first | rfl | (simp [*] <;> rfl), by repeat (first | (with_reducible first | exact HB.out | apply wa | apply wn | apply wd | refine ws ?_ GE225.out | refine ws ?_ GE226.out) | exact HB.out)⟩
              ·rw [if_neg c48] at H
               exact absurd H (by simp)
             ·rw [if_neg c47] at H
              exact absurd H (by simp)
            ·rw [if_neg c46] at H
             have c46b0 : decide (x7_4 < (l0_2.length : Int)) = false := decide_eq_false c46
             clear c46
             obtain rfl := Option.some.inj H
             have hnb56 := NB225_226.out
             have hnc56 := NB226_225.out
             have hcz57_0 : wr.cell? ⟨gb225, 0, none⟩ = some (.slice A0_0 l0_0.length c0_0) := (blk_cell BK225.out 0).trans rfl
             have hcz57_1 : wr.cell? ⟨gb225, 1, none⟩ = some (.slice A0_1 l0_1.length c0_1) := (blk_cell BK225.out 1).trans rfl
             have hcz57_2 : wr.cell? ⟨gb225, 2, none⟩ = some (.slice A0_2 l0_2.length c0_2) := (blk_cell BK225.out 2).trans rfl
             have hcz57_3 : wr.cell? ⟨gb225, 3, none⟩ = some (.int .u8 a0_3) := (blk_cell BK225.out 3).trans rfl
             have hcz57_4 : wr.cell? ⟨gb225, 4, none⟩ = some (.int .u8 a0_4) := (blk_cell BK225.out 4).trans rfl
             have hcz57_5 : wr.cell? ⟨gb225, 5, none⟩ = some (.int .u8 a0_5) := (blk_cell BK225.out 5).trans rfl
             have hfz57_0 := blk_frozen BK225.out 0
             have hfz57_1 := blk_frozen BK225.out 1
             have hfz57_2 := blk_frozen BK225.out 2
             have hfz57_3 := blk_frozen BK225.out 3
             have hfz57_4 := blk_frozen BK225.out 4
             have hfz57_5 := blk_frozen BK225.out 5
             go_wp2
             repeat (go_quiet (fail); try go_wp2)
             go_ret
             exact ⟨by first | rfl | (simp [*] <;> rfl), by repeat (first | (with_reducible first | exact HB.out | apply wa | apply wn | apply wd | refine ws ?_ GE225.out | refine ws ?_ GE226.out) | exact HB.out)⟩
end Go.Proofs.Ytmjhnmdmopmfjaa.Fn
