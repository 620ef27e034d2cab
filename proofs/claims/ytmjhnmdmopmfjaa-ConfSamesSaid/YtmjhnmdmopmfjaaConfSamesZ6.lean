/- Part of the proof of ConfSames: see the last text. (Words laid by the print, as far as they are named here; walks written by a program of this project; plain laws.) -/
import Derived.Test.YtmjhnmdmopmfjaaConfSamesZ5
namespace Go.Proofs.Ytmjhnmdmopmfjaa.Fn
open Go.RowKit Go.Proofs.YtmjhnmdmopmfjaaW.PrintWords Go.Proofs.YtmjhnmdmopmfjaaW.PrintLast Go.Proofs.YtmjhnmdmopmfjaaW.PrintMore
attribute [local go_sem] max2_int min2_int max_two min_two max_three min_three max_four min_four
set_option linter.unusedVariables false
set_option linter.unusedSimpArgs false
def parcloselaw03_ConfSames.j0 : Nat → Bool → Int → Int → List (S77) → List (S61) → List (S78) → Int → Int → List (S77) → List (S61) → List (S78) → Option (Bool)
 | 0, _, _, _, _, _, _, _, _, _, _, _ => none
 | k + 1, x13, x407000, x407001, x407002, x407003, x407004, x408000, x408001, x408002, x408003, x408004 => if x13 = true then ((parcloselaw03_knows.f k).bind fun t410 => (some t410)) else ((parcloselaw03_Config.f k x407000 x407001 x407002 x407003 x407004).bind fun bt411 => ((parcloselaw03_Config.f k x408000 x408001 x408002 x408003 x408004).bind fun bt423 => ((conf_Same.f k bt411.1 bt411.2.1 bt411.2.2.1 bt411.2.2.2.1 bt411.2.2.2.2 bt423.1 bt423.2.1 bt423.2.2.1 bt423.2.2.2.1 bt423.2.2.2.2).bind fun t434 => ((parcloseref03_Same.f k x407000 x407001 x407002 x407003 x407004 x408000 x408001 x408002 x408003 x408004).bind fun t435 => (if (t434 == t435) = true then ((conf_Clone.f k bt411.1 bt411.2.1 bt411.2.2.1 bt411.2.2.2.1 bt411.2.2.2.2).bind fun bt436 => ((conf_Same.f k bt411.1 bt411.2.1 bt411.2.2.1 bt411.2.2.2.1 bt411.2.2.2.2 bt436.1 bt436.2.1 bt436.2.2.1 bt436.2.2.2.1 bt436.2.2.2.2).bind fun t447 => (if t447 = true then ((conf_Clone.f k bt411.1 bt411.2.1 bt411.2.2.1 bt411.2.2.2.1 bt411.2.2.2.2).bind fun bt448 => ((parcloselaw03_Ref.f k bt448.1 bt448.2.1 bt448.2.2.1 bt448.2.2.2.1 bt448.2.2.2.2).bind fun bt459 => ((parcloseref03_Same.f k bt459.1 bt459.2.1 bt459.2.2.1 bt459.2.2.2.1 bt459.2.2.2.2 x407000 x407001 x407002 x407003 x407004).bind fun t470 => (if t470 = true then ((parcloselaw03_knows.f k).bind fun t471 => (some t471)) else (some false))))) else (some false)))) else (some false))))))
def parcloselaw03_ConfSames.f (k : Nat) (a0_0 : Int) (a0_1 : Int) (l0_2 : List (S77)) (l0_3 : List (S61)) (l0_4 : List (S78)) (a1_0 : Int) (a1_1 : Int) (l1_2 : List (S77)) (l1_3 : List (S61)) (l1_4 : List (S78)) : Option (Bool) := (parcloselaw03_Light.f k a0_0 a0_1 l0_2 l0_3 l0_4).bind fun t408 => (if t408 = true then ((parcloselaw03_Light.f k a1_0 a1_1 l1_2 l1_3 l1_4).bind fun t409 => (parcloselaw03_ConfSames.j0 k (!t409) a0_0 a0_1 l0_2 l0_3 l0_4 a1_0 a1_1 l1_2 l1_3 l1_4)) else (parcloselaw03_ConfSames.j0 k true a0_0 a0_1 l0_2 l0_3 l0_4 a1_0 a1_1 l1_2 l1_3 l1_4))
def parcloselaw03_ConfSames.T4 : Bool × List (List Nat × List Nat) := (true, [([], []), ([], []), ([1], [1]), ([0, 2, 2], [0, 2]), ([], []), ([], []), ([4, 5, 3], [4, 5]), ([3, 6], [3, 6]), ([7, 6], [7]), ([8], [8]), ([8], [8]), ([10, 8, 8], [8, 10]), ([9, 11, 11, 8], [8, 9, 11]), ([8, 12], [8, 12]), ([13, 12], [13]), ([14], [14]), ([15, 14, 14], [14, 15]), ([16, 16, 14], [14, 16]), ([14], [14]), ([17, 18, 17, 14], [14, 17, 18]), ([14, 19], [14, 19]), ([20, 19], [20]), ([21, 21], [21]), ([21, 22], [21, 22]), ([23, 22, 0, 1, 2, 3, 4, 5, 6, 7, 8, 9, 10, 11, 12, 13, 14, 15, 16, 17, 18, 19, 20, 21, 22, 23], [23])])
def parcloselaw03_ConfSames.B4 : List Nat := [0, 0, 2, 7, 0, 0, 63, 127, 255, 511, 511, 1535, 4095, 8191, 16383, 32767, 65535, 131071, 32767, 524287, 1048575, 2097151, 4194303, 8388607, 16777215]
theorem parcloselaw03_ConfSames.tab4 : rtab .any (opsOf Try.f6 4) = parcloselaw03_ConfSames.T4 := by kernel_rfl
theorem parcloselaw03_ConfSames.bits4 : waitsOk parcloselaw03_ConfSames.T4.2 parcloselaw03_ConfSames.B4 = true := by kernel_rfl
set_option maxHeartbeats 8000000 in
set_option maxRecDepth 100000 in
theorem parcloselaw03_ConfSames.calls (k : Nat) (a0_0 : Int) (a0_1 : Int) (A0_2 : Option Addr) (c0_2 : Nat) (l0_2 : List (S77)) (A0_3 : Option Addr) (c0_3 : Nat) (l0_3 : List (S61)) (A0_4 : Option Addr) (c0_4 : Nat) (l0_4 : List (S78)) (a1_0 : Int) (a1_1 : Int) (A1_2 : Option Addr) (c1_2 : Nat) (l1_2 : List (S77)) (A1_3 : Option Addr) (c1_3 : Nat) (l1_3 : List (S61)) (A1_4 : Option Addr) (c1_4 : Nat) (l1_4 : List (S78)) (r : Bool) (w : World) (hr0_2 : Kd.C k77 w A0_2 l0_2.length l0_2) (hc0_2 : l0_2.length ≤ c0_2) (hr0_3 : Kd.C k61 w A0_3 l0_3.length l0_3) (hc0_3 : l0_3.length ≤ c0_3) (hr0_4 : Kd.C k78 w A0_4 l0_4.length l0_4) (hc0_4 : l0_4.length ≤ c0_4) (hr1_2 : Kd.C k77 w A1_2 l1_2.length l1_2) (hc1_2 : l1_2.length ≤ c1_2) (hr1_3 : Kd.C k61 w A1_3 l1_3.length l1_3) (hc1_3 : l1_3.length ≤ c1_3) (hr1_4 : Kd.C k78 w A1_4 l1_4.length l1_4) (hc1_4 : l1_4.length ≤ c1_4) (hr__ : r = true) (h : parcloselaw03_ConfSames.f k a0_0 a0_1 l0_2 l0_3 l0_4 a1_0 a1_1 l1_2 l1_3 l1_4 = some r) :
  Calls Try.prog 6 #[.agg #[.int .i64 a0_0, .int .i64 a0_1, .slice A0_2 l0_2.length c0_2, .slice A0_3 l0_3.length c0_3, .slice A0_4 l0_4.length c0_4], .agg #[.int .i64 a1_0, .int .i64 a1_1, .slice A1_2 l1_2.length c1_2, .slice A1_3 l1_3.length c1_3, .slice A1_4 l1_4.length c1_4]] w fun e w' => e = .returned (.bool r) ∧ Below w.heap.size w w' := by
 have hu26 := Try.underlying26
 have hu34 := Try.underlying34
 have HR0_2 := asd hr0_2
 have HC0_2 := asd hc0_2
 clear hr0_2 hc0_2
 have HR0_3 := asd hr0_3
 have HC0_3 := asd hc0_3
 clear hr0_3 hc0_3
 have HR0_4 := asd hr0_4
 have HC0_4 := asd hc0_4
 clear hr0_4 hc0_4
 have HR1_2 := asd hr1_2
 have HC1_2 := asd hc1_2
 clear hr1_2 hc1_2
 have HR1_3 := asd hr1_3
 have HC1_3 := asd hc1_3
 clear hr1_3 hc1_3
 have HR1_4 := asd hr1_4
 have HC1_4 := asd hc1_4
 clear hr1_4 hc1_4
 have HB := asd (Below.refl w.heap.size w)
 have HR__ := asd hr__
 clear hr__
 have H : ((parcloselaw03_Light.f k a0_0 a0_1 l0_2 l0_3 l0_4).bind fun t408 => (if t408 = true then ((parcloselaw03_Light.f k a1_0 a1_1 l1_2 l1_3 l1_4).bind fun t409 => (parcloselaw03_ConfSames.j0 k (!t409) a0_0 a0_1 l0_2 l0_3 l0_4 a1_0 a1_1 l1_2 l1_3 l1_4)) else (parcloselaw03_ConfSames.j0 k true a0_0 a0_1 l0_2 l0_3 l0_4 a1_0 a1_1 l1_2 l1_3 l1_4))) = some r := h
 clear h
 have HC3 := asd H
 clear H
 go_enter Try.func6, Try.ntmps6
 go_upto_region 1 with (first | ((with_reducible refine gate_dst (N := 2) rfl ?_); refine box_event ?hg (N := 2) ?hd (cs := #[.int .i64 a0_0, .int .i64 a0_1, .slice A0_2 l0_2.length c0_2, .slice A0_3 l0_3.length c0_3, .slice A0_4 l0_4.length c0_4]) (t := 26) ?hr ?_; (case hd => rfl); (case hg => rfl); (case hr => first | (go_simp; done) | (go_simp; rfl)); intro gb406 hg w4 hbox hb; have n0_ := asd (below_step (by repeat (first | (with_reducible first | exact HB.out | apply wa | apply wn | apply wd) | exact HB.out)) hb); have n1_ := asd (hbox); have n2_ := asd ((by rw [hg]; exact (below_size (by repeat (first | (with_reducible first | exact HB.out | apply wa | apply wn | apply wd) | exact HB.out))) : w.heap.size ≤ gb406)); have n3_ := asd ((by rw [hg]; exact (below_size (by repeat (first | (with_reducible first | exact HB.out | apply wa | apply wn | apply wd) | exact HB.out))) : w.heap.size ≤ gb406)); clear HB; have HB := n0_; have BK406 := n1_; have GW406 := n2_; have GE406 := n3_; clear n0_ n1_ n2_ n3_; clear hb hbox hg) | ((with_reducible refine gate_dst (N := 3) rfl ?_); refine box_event ?hg (N := 3) ?hd (cs := #[.int .i64 a1_0, .int .i64 a1_1, .slice A1_2 l1_2.length c1_2, .slice A1_3 l1_3.length c1_3, .slice A1_4 l1_4.length c1_4]) (t := 26) ?hr ?_; (case hd => rfl); (case hg => rfl); (case hr => first | (go_simp; done) | (go_simp; rfl)); intro gb407 hg w5 hbox hb; have n0_ := asd (blk_below (g := gb406) (o := .cells #[.int .i64 a0_0, .int .i64 a0_1, .slice A0_2 l0_2.length c0_2, .slice A0_3 l0_3.length c0_3, .slice A0_4 l0_4.length c0_4] 26 (0, 0)) (by (with_reducible repeat first | apply bn | apply bd | apply ba); exact BK406.out) hb); have n1_ := asd (below_step (by repeat (first | (with_reducible first | exact HB.out | apply wa | apply wn | apply wd | refine ws ?_ GE406.out) | exact HB.out)) hb); have n2_ := asd (hbox); have n3_ := asd ((by rw [hg]; exact (below_size (by repeat (first | (with_reducible first | exact HB.out | apply wa | apply wn | apply wd | refine ws ?_ GE406.out) | exact HB.out))) : w.heap.size ≤ gb407)); have n4_ := asd ((by rw [hg]; exact (below_size (by repeat (first | (with_reducible first | exact HB.out | apply wa | apply wn | apply wd | refine ws ?_ GE406.out) | exact HB.out))) : w.heap.size ≤ gb407)); have n5_ := asd ((by rw [hg]; exact Nat.ne_of_lt (blk_lt (g := gb406) (o := .cells #[.int .i64 a0_0, .int .i64 a0_1, .slice A0_2 l0_2.length c0_2, .slice A0_3 l0_3.length c0_3, .slice A0_4 l0_4.length c0_4] 26 (0, 0)) (by (with_reducible repeat first | apply bn | apply bd | apply ba); exact BK406.out)) : gb406 ≠ gb407)); have n6_ := asd ((by rw [hg]; exact Nat.ne_of_gt (blk_lt (g := gb406) (o := .cells #[.int .i64 a0_0, .int .i64 a0_1, .slice A0_2 l0_2.length c0_2, .slice A0_3 l0_3.length c0_3, .slice A0_4 l0_4.length c0_4] 26 (0, 0)) (by (with_reducible repeat first | apply bn | apply bd | apply ba); exact BK406.out)) : gb407 ≠ gb406)); clear BK406; clear HB; have BK406 := n0_; have HB := n1_; have BK407 := n2_; have GW407 := n3_; have GE407 := n4_; have NB406_407 := n5_; have NB407_406 := n6_; clear n0_ n1_ n2_ n3_ n4_ n5_ n6_; clear hb hbox hg))
 (try simp only [Act.put, sB])
 go_cut [13] (fun v13 wc => ∃ (kq : Nat) (x13_2 : Bool), v13 = .bool x13_2 ∧ Aside0 (parcloselaw03_ConfSames.j0 kq x13_2 a0_0 a0_1 l0_2 l0_3 l0_4 a1_0 a1_1 l1_2 l1_3 l1_4 = some r) ∧ Aside0 (kq ≤ k) ∧ Aside0 (wc.heap[gb406]? = some (.cells #[.int .i64 a0_0, .int .i64 a0_1, (.slice A0_2 l0_2.length c0_2), (.slice A0_3 l0_3.length c0_3), (.slice A0_4 l0_4.length c0_4)] 26 (0, 0))) ∧ Aside0 (wc.heap[gb407]? = some (.cells #[.int .i64 a1_0, .int .i64 a1_1, (.slice A1_2 l1_2.length c1_2), (.slice A1_3 l1_3.length c1_3), (.slice A1_4 l1_4.length c1_4)] 26 (0, 0))) ∧ Aside0 (Below w.heap.size w wc))
 case first =>
  have H := HC3.out
  clear HC3
  replace H := Option.bind_eq_some_iff.mp H
  obtain ⟨t408, A60, H⟩ := H
  replace H : (if t408 = true then ((parcloselaw03_Light.f k a1_0 a1_1 l1_2 l1_3 l1_4).bind fun t409 => (parcloselaw03_ConfSames.j0 k (!t409) a0_0 a0_1 l0_2 l0_3 l0_4 a1_0 a1_1 l1_2 l1_3 l1_4)) else (parcloselaw03_ConfSames.j0 k true a0_0 a0_1 l0_2 l0_3 l0_4 a1_0 a1_1 l1_2 l1_3 l1_4)) = some r := H
  have A6 := asd A60
  clear A60
  by_cases c7 : t408 = true
  ·subst c7
   have H1 : ((parcloselaw03_Light.f k a1_0 a1_1 l1_2 l1_3 l1_4).bind fun t409 => (parcloselaw03_ConfSames.j0 k (!t409) a0_0 a0_1 l0_2 l0_3 l0_4 a1_0 a1_1 l1_2 l1_3 l1_4)) = some r := by rw [if_pos rfl] at H; exact H
   clear H
   have H := H1
   clear H1
   replace H := Option.bind_eq_some_iff.mp H
   obtain ⟨t409, A80, H⟩ := H
   replace H : (parcloselaw03_ConfSames.j0 k (!t409) a0_0 a0_1 l0_2 l0_3 l0_4 a1_0 a1_1 l1_2 l1_3 l1_4) = some r := H
   have A8 := asd A80
   clear A80
   have H' := asd H
   clear H
   have hnb9 := NB406_407.out
   have hnc9 := NB407_406.out
   have hcz10_0 : w5.cell? ⟨gb406, 0, none⟩ = some (.int .i64 a0_0) := (blk_cell BK406.out 0).trans rfl
   have hcz10_1 : w5.cell? ⟨gb406, 1, none⟩ = some (.int .i64 a0_1) := (blk_cell BK406.out 1).trans rfl
   have hcz10_2 : w5.cell? ⟨gb406, 2, none⟩ = some (.slice A0_2 l0_2.length c0_2) := (blk_cell BK406.out 2).trans rfl
   have hcz10_3 : w5.cell? ⟨gb406, 3, none⟩ = some (.slice A0_3 l0_3.length c0_3) := (blk_cell BK406.out 3).trans rfl
   have hcz10_4 : w5.cell? ⟨gb406, 4, none⟩ = some (.slice A0_4 l0_4.length c0_4) := (blk_cell BK406.out 4).trans rfl
   have hfz10_0 := blk_frozen BK406.out 0
   have hfz10_1 := blk_frozen BK406.out 1
   have hfz10_2 := blk_frozen BK406.out 2
   have hfz10_3 := blk_frozen BK406.out 3
   have hfz10_4 := blk_frozen BK406.out 4
   go_wp2_with (first | ((with_reducible refine gate_callee (f := 15) rfl ?_); refine goesL_ (some 7) rfl rfl Try.func15 (by kernel_rfl) rfl #[.agg #[.int .i64 a0_0, .int .i64 a0_1, .slice A0_2 l0_2.length c0_2, .slice A0_3 l0_3.length c0_3, .slice A0_4 l0_4.length c0_4]] rfl (by (try simp only [List.map_toArray, List.map_cons, List.map_nil]); first | done | rfl | (simp only [List.length_drop, List.length_take]; rfl)) ?_; (with_reducible refine (parcloselaw03_Light.calls k a0_0 a0_1 _ _ l0_2 _ _ l0_3 _ _ l0_4 true _ ?side1 ?side2 ?side3 ?side4 ?side5 ?side6 A6.out).mono ?_); (case side1 => repeat (first | exact (Kd.C_below HR0_2.out HB.out) | (with_reducible refine Kd.C_alloc ?_ _) | (with_reducible refine Kd.C_drewN ?_ _) | (with_reducible refine Kd.C_drew ?_))); (case side2 => exact HC0_2.out); (case side3 => repeat (first | exact (Kd.C_below HR0_3.out HB.out) | (with_reducible refine Kd.C_alloc ?_ _) | (with_reducible refine Kd.C_drewN ?_ _) | (with_reducible refine Kd.C_drew ?_))); (case side4 => exact HC0_3.out); (case side5 => repeat (first | exact (Kd.C_below HR0_4.out HB.out) | (with_reducible refine Kd.C_alloc ?_ _) | (with_reducible refine Kd.C_drewN ?_ _) | (with_reducible refine Kd.C_drew ?_))); (case side6 => exact HC0_4.out); rintro e w11 ⟨rfl, hb⟩; refine ⟨_, rfl, ?_⟩; have n0_ := asd (blk_below (g := gb406) (o := .cells #[.int .i64 a0_0, .int .i64 a0_1, .slice A0_2 l0_2.length c0_2, .slice A0_3 l0_3.length c0_3, .slice A0_4 l0_4.length c0_4] 26 (0, 0)) (by (with_reducible repeat first | apply bn | apply bd | apply ba); exact BK406.out) hb); have n1_ := asd (blk_below (g := gb407) (o := .cells #[.int .i64 a1_0, .int .i64 a1_1, .slice A1_2 l1_2.length c1_2, .slice A1_3 l1_3.length c1_3, .slice A1_4 l1_4.length c1_4] 26 (0, 0)) (by (with_reducible repeat first | apply bn | apply bd | apply ba); exact BK407.out) hb); have n2_ := asd (below_step (by repeat (first | (with_reducible first | exact HB.out | apply wa | apply wn | apply wd | refine ws ?_ GE406.out | refine ws ?_ GE407.out) | exact HB.out)) hb); clear BK406; clear BK407; clear HB; have BK406 := n0_; have BK407 := n1_; have HB := n2_; clear n0_ n1_ n2_; (try clear hb); (try clear hb2); (try clear hk); (try clear hi); have hcz12_0 : w11.cell? ⟨gb407, 0, none⟩ = some (.int .i64 a1_0) := (blk_cell BK407.out 0).trans rfl; have hcz12_1 : w11.cell? ⟨gb407, 1, none⟩ = some (.int .i64 a1_1) := (blk_cell BK407.out 1).trans rfl; have hcz12_2 : w11.cell? ⟨gb407, 2, none⟩ = some (.slice A1_2 l1_2.length c1_2) := (blk_cell BK407.out 2).trans rfl; have hcz12_3 : w11.cell? ⟨gb407, 3, none⟩ = some (.slice A1_3 l1_3.length c1_3) := (blk_cell BK407.out 3).trans rfl; have hcz12_4 : w11.cell? ⟨gb407, 4, none⟩ = some (.slice A1_4 l1_4.length c1_4) := (blk_cell BK407.out 4).trans rfl; have hfz12_0 := blk_frozen BK407.out 0; have hfz12_1 := blk_frozen BK407.out 1; have hfz12_2 := blk_frozen BK407.out 2; have hfz12_3 := blk_frozen BK407.out 3; have hfz12_4 := blk_frozen BK407.out 4) | (go_at_call 15; (with_reducible refine (parcloselaw03_Light.calls k a1_0 a1_1 _ _ l1_2 _ _ l1_3 _ _ l1_4 t409 _ ?side1 ?side2 ?side3 ?side4 ?side5 ?side6 A8.out).mono ?_); (case side1 => repeat (first | exact (Kd.C_below HR1_2.out HB.out) | (with_reducible refine Kd.C_alloc ?_ _) | (with_reducible refine Kd.C_drewN ?_ _) | (with_reducible refine Kd.C_drew ?_))); (case side2 => exact HC1_2.out); (case side3 => repeat (first | exact (Kd.C_below HR1_3.out HB.out) | (with_reducible refine Kd.C_alloc ?_ _) | (with_reducible refine Kd.C_drewN ?_ _) | (with_reducible refine Kd.C_drew ?_))); (case side4 => exact HC1_3.out); (case side5 => repeat (first | exact (Kd.C_below HR1_4.out HB.out) | (with_reducible refine Kd.C_alloc ?_ _) | (with_reducible refine Kd.C_drewN ?_ _) | (with_reducible refine Kd.C_drew ?_))); (case side6 => exact HC1_4.out); rintro e w13 ⟨rfl, hb⟩; have n0_ := asd (blk_below (g := gb406) (o := .cells #[.int .i64 a0_0, .int .i64 a0_1, .slice A0_2 l0_2.length c0_2, .slice A0_3 l0_3.length c0_3, .slice A0_4 l0_4.length c0_4] 26 (0, 0)) (by (with_reducible repeat first | apply bn | apply bd | apply ba); exact BK406.out) hb); have n1_ := asd (blk_below (g := gb407) (o := .cells #[.int .i64 a1_0, .int .i64 a1_1, .slice A1_2 l1_2.length c1_2, .slice A1_3 l1_3.length c1_3, .slice A1_4 l1_4.length c1_4] 26 (0, 0)) (by (with_reducible repeat first | apply bn | apply bd | apply ba); exact BK407.out) hb); have n2_ := asd (below_step (by repeat (first | (with_reducible first | exact HB.out | apply wa | apply wn | apply wd | refine ws ?_ GE406.out | refine ws ?_ GE407.out) | exact HB.out)) hb); clear BK406; clear BK407; clear HB; have BK406 := n0_; have BK407 := n1_; have HB := n2_; clear n0_ n1_ n2_; (try clear hb); (try clear hb2); (try clear hk); (try clear hi)))
   go_meet
   case rel => exact ⟨_, (!t409), (by first | rfl | (simp; done) | (simp [*]; done)), H', ⟨by first | omega | exact Nat.le_refl _⟩, ⟨by (with_reducible repeat first | apply bn | apply bd | apply ba); exact BK406.out⟩, ⟨by (with_reducible repeat first | apply bn | apply bd | apply ba); exact BK407.out⟩, ⟨by repeat (first | (with_reducible first | exact HB.out | apply wa | apply wn | apply wd | refine ws ?_ GE406.out | refine ws ?_ GE407.out) | exact HB.out)⟩⟩
  ·replace c7 := Bool.eq_false_iff.mpr c7
   subst c7
   have H1 : (parcloselaw03_ConfSames.j0 k true a0_0 a0_1 l0_2 l0_3 l0_4 a1_0 a1_1 l1_2 l1_3 l1_4) = some r := by rw [if_neg (show ¬ (false = true) by decide)] at H; exact H
   clear H
   have H := H1
   clear H1
   have H' := asd H
   clear H
   have hnb14 := NB406_407.out
   have hnc14 := NB407_406.out
   have hcz15_0 : w5.cell? ⟨gb406, 0, none⟩ = some (.int .i64 a0_0) := (blk_cell BK406.out 0).trans rfl
   have hcz15_1 : w5.cell? ⟨gb406, 1, none⟩ = some (.int .i64 a0_1) := (blk_cell BK406.out 1).trans rfl
   have hcz15_2 : w5.cell? ⟨gb406, 2, none⟩ = some (.slice A0_2 l0_2.length c0_2) := (blk_cell BK406.out 2).trans rfl
   have hcz15_3 : w5.cell? ⟨gb406, 3, none⟩ = some (.slice A0_3 l0_3.length c0_3) := (blk_cell BK406.out 3).trans rfl
   have hcz15_4 : w5.cell? ⟨gb406, 4, none⟩ = some (.slice A0_4 l0_4.length c0_4) := (blk_cell BK406.out 4).trans rfl
   have hfz15_0 := blk_frozen BK406.out 0
   have hfz15_1 := blk_frozen BK406.out 1
   have hfz15_2 := blk_frozen BK406.out 2
   have hfz15_3 := blk_frozen BK406.out 3
   have hfz15_4 := blk_frozen BK406.out 4
   go_wp2_with (first | ((with_reducible refine gate_callee (f := 15) rfl ?_); refine goesL_ (some 7) rfl rfl Try.func15 (by kernel_rfl) rfl #[.agg #[.int .i64 a0_0, .int .i64 a0_1, .slice A0_2 l0_2.length c0_2, .slice A0_3 l0_3.length c0_3, .slice A0_4 l0_4.length c0_4]] rfl (by (try simp only [List.map_toArray, List.map_cons, List.map_nil]); first | done | rfl | (simp only [List.length_drop, List.length_take]; rfl)) ?_; (with_reducible refine (parcloselaw03_Light.calls k a0_0 a0_1 _ _ l0_2 _ _ l0_3 _ _ l0_4 false _ ?side1 ?side2 ?side3 ?side4 ?side5 ?side6 A6.out).mono ?_); (case side1 => repeat (first | exact (Kd.C_below HR0_2.out HB.out) | (with_reducible refine Kd.C_alloc ?_ _) | (with_reducible refine Kd.C_drewN ?_ _) | (with_reducible refine Kd.C_drew ?_))); (case side2 => exact HC0_2.out); (case side3 => repeat (first | exact (Kd.C_below HR0_3.out HB.out) | (with_reducible refine Kd.C_alloc ?_ _) | (with_reducible refine Kd.C_drewN ?_ _) | (with_reducible refine Kd.C_drew ?_))); (case side4 => exact HC0_3.out); (case side5 => repeat (first | exact (Kd.C_below HR0_4.out HB.out) | (with_reducible refine Kd.C_alloc ?_ _) | (with_reducible refine Kd.C_drewN ?_ _) | (with_reducible refine Kd.C_drew ?_))); (case side6 => exact HC0_4.out); rintro e w16 ⟨rfl, hb⟩; refine ⟨_, rfl, ?_⟩; have n0_ := asd (blk_below (g := gb406) (o := .cells #[.int .i64 a0_0, .int .i64 a0_1, .slice A0_2 l0_2.length c0_2, .slice A0_3 l0_3.length c0_3, .slice A0_4 l0_4.length c0_4] 26 (0, 0)) (by (with_reducible repeat first | apply bn | apply bd | apply ba); exact BK406.out) hb); have n1_ := asd (blk_below (g := gb407) (o := .cells #[.int .i64 a1_0, .int .i64 a1_1, .slice A1_2 l1_2.length c1_2, .slice A1_3 l1_3.length c1_3, .slice A1_4 l1_4.length c1_4] 26 (0, 0)) (by (with_reducible repeat first | apply bn | apply bd | apply ba); exact BK407.out) hb); have n2_ := asd (below_step (by repeat (first | (with_reducible first | exact HB.out | apply wa | apply wn | apply wd | refine ws ?_ GE406.out | refine ws ?_ GE407.out) | exact HB.out)) hb); clear BK406; clear BK407; clear HB; have BK406 := n0_; have BK407 := n1_; have HB := n2_; clear n0_ n1_ n2_; (try clear hb); (try clear hb2); (try clear hk); (try clear hi)))
   go_meet
   case rel => exact ⟨_, (true), (by first | rfl | (simp; done) | (simp [*]; done)), H', ⟨by first | omega | exact Nat.le_refl _⟩, ⟨by (with_reducible repeat first | apply bn | apply bd | apply ba); exact BK406.out⟩, ⟨by (with_reducible repeat first | apply bn | apply bd | apply ba); exact BK407.out⟩, ⟨by repeat (first | (with_reducible first | exact HB.out | apply wa | apply wn | apply wd | refine ws ?_ GE406.out | refine ws ?_ GE407.out) | exact HB.out)⟩⟩
 case rest =>
  clear HC3
  try clear c1
  try clear p2
  try clear c6
  try clear c7
  try clear c9
  try clear c14
  try clear c15
  try clear hcz10_0
  try clear hcz10_1
  try clear hcz10_2
  try clear hcz10_3
  try clear hcz10_4
  try clear hcz12_0
  try clear hcz12_1
  try clear hcz12_2
  try clear hcz12_3
  try clear hcz12_4
  try clear hcz15_0
  try clear hcz15_1
  try clear hcz15_2
  try clear hcz15_3
  try clear hcz15_4
  try clear hfz10_0
  try clear hfz10_1
  try clear hfz10_2
  try clear hfz10_3
  try clear hfz10_4
  try clear hfz12_0
  try clear hfz12_1
  try clear hfz12_2
  try clear hfz12_3
  try clear hfz12_4
  try clear hfz15_0
  try clear hfz15_1
  try clear hfz15_2
  try clear hfz15_3
  try clear hfz15_4
  obtain ⟨kq, x13_2, rfl, HA, HJ2, BK406, BK407, HB⟩ := hcut
  cases kq with
  | zero => exact absurd HA.out (by simp [parcloselaw03_ConfSames.j0])
  | succ kj2 =>
   have H := HA.out
   clear HA
   simp only [parcloselaw03_ConfSames.j0] at H
   by_cases c17 : x13_2 = true
   ·subst c17
    have H1 : ((parcloselaw03_knows.f kj2).bind fun t410 => (some t410)) = some r := by rw [if_pos rfl] at H; exact H
    clear H
    have H := H1
    clear H1
    replace H := Option.bind_eq_some_iff.mp H
    obtain ⟨t410, A180, H⟩ := H
    replace H : (some t410) = some r := H
    have A18 := asd A180
    clear A180
    obtain rfl := Option.some.inj H
    go_wp2_with (first | ((with_reducible refine gate_callee (f := 16) rfl ?_); refine goesL_ (some 14) rfl rfl Try.func16 (by kernel_rfl) rfl #[] rfl (by (try simp only [List.map_toArray, List.map_cons, List.map_nil]); first | done | rfl | (simp only [List.length_drop, List.length_take]; rfl)) ?_; (with_reducible refine (parcloselaw03_knows.calls kj2  t410 _ A18.out).mono ?_); rintro e w19 ⟨rfl, hb⟩; refine ⟨_, rfl, ?_⟩; have n0_ := asd (blk_below (g := gb406) (o := .cells #[.int .i64 a0_0, .int .i64 a0_1, .slice A0_2 l0_2.length c0_2, .slice A0_3 l0_3.length c0_3, .slice A0_4 l0_4.length c0_4] 26 (0, 0)) (by (with_reducible repeat first | apply bn | apply bd | apply ba); exact BK406.out) hb); have n1_ := asd (blk_below (g := gb407) (o := .cells #[.int .i64 a1_0, .int .i64 a1_1, .slice A1_2 l1_2.length c1_2, .slice A1_3 l1_3.length c1_3, .slice A1_4 l1_4.length c1_4] 26 (0, 0)) (by (with_reducible repeat first | apply bn | apply bd | apply ba); exact BK407.out) hb); have n2_ := asd (below_step (by repeat (first | (with_reducible first | exact HB.out | apply wa | apply wn | apply wd | refine ws ?_ GE406.out | refine ws ?_ GE407.out) | exact HB.out)) hb); clear BK406; clear BK407; clear HB; have BK406 := n0_; have BK407 := n1_; have HB := n2_; clear n0_ n1_ n2_; (try clear hb); (try clear hb2); (try clear hk); (try clear hi)))
    go_ret
    exact ⟨by first | rfl | (simp [*] <;> rfl), by repeat (first | (with_reducible first | exact HB.out | apply wa | apply wn | apply wd | refine ws ?_ GE406.out | refine ws ?_ GE407.out) | exact HB.out)⟩
   ·replace c17 := Bool.eq_false_iff.mpr c17
    subst c17
    have H1 : ((parcloselaw03_Config.f kj2 a0_0 a0_1 l0_2 l0_3 l0_4).bind fun bt411 => ((parcloselaw03_Config.f kj2 a1_0 a1_1 l1_2 l1_3 l1_4).bind fun bt423 => ((conf_Same.f kj2 bt411.1 bt411.2.1 bt411.2.2.1 bt411.2.2.2.1 bt411.2.2.2.2 bt423.1 bt423.2.1 bt423.2.2.1 bt423.2.2.2.1 bt423.2.2.2.2).bind fun t434 => ((parcloseref03_Same.f kj2 a0_0 a0_1 l0_2 l0_3 l0_4 a1_0 a1_1 l1_2 l1_3 l1_4).bind fun t435 => (if (t434 == t435) = true then ((conf_Clone.f kj2 bt411.1 bt411.2.1 bt411.2.2.1 bt411.2.2.2.1 bt411.2.2.2.2).bind fun bt436 => ((conf_Same.f kj2 bt411.1 bt411.2.1 bt411.2.2.1 bt411.2.2.2.1 bt411.2.2.2.2 bt436.1 bt436.2.1 bt436.2.2.1 bt436.2.2.2.1 bt436.2.2.2.2).bind fun t447 => (if t447 = true then ((conf_Clone.f kj2 bt411.1 bt411.2.1 bt411.2.2.1 bt411.2.2.2.1 bt411.2.2.2.2).bind fun bt448 => ((parcloselaw03_Ref.f kj2 bt448.1 bt448.2.1 bt448.2.2.1 bt448.2.2.2.1 bt448.2.2.2.2).bind fun bt459 => ((parcloseref03_Same.f kj2 bt459.1 bt459.2.1 bt459.2.2.1 bt459.2.2.2.1 bt459.2.2.2.2 a0_0 a0_1 l0_2 l0_3 l0_4).bind fun t470 => (if t470 = true then ((parcloselaw03_knows.f kj2).bind fun t471 => (some t471)) else (some false))))) else (some false)))) else (some false)))))) = some r := by rw [if_neg (show ¬ (false = true) by decide)] at H; exact H
    clear H
    have H := H1
    clear H1
    replace H := Option.bind_eq_some_iff.mp H
    obtain ⟨⟨t411, t412, t413, t416, t419⟩, A200, H⟩ := H
    replace H : ((parcloselaw03_Config.f kj2 a1_0 a1_1 l1_2 l1_3 l1_4).bind fun bt423 => ((conf_Same.f kj2 t411 t412 t413 t416 t419 bt423.1 bt423.2.1 bt423.2.2.1 bt423.2.2.2.1 bt423.2.2.2.2).bind fun t434 => ((parcloseref03_Same.f kj2 a0_0 a0_1 l0_2 l0_3 l0_4 a1_0 a1_1 l1_2 l1_3 l1_4).bind fun t435 => (if (t434 == t435) = true then ((conf_Clone.f kj2 t411 t412 t413 t416 t419).bind fun bt436 => ((conf_Same.f kj2 t411 t412 t413 t416 t419 bt436.1 bt436.2.1 bt436.2.2.1 bt436.2.2.2.1 bt436.2.2.2.2).bind fun t447 => (if t447 = true then ((conf_Clone.f kj2 t411 t412 t413 t416 t419).bind fun bt448 => ((parcloselaw03_Ref.f kj2 bt448.1 bt448.2.1 bt448.2.2.1 bt448.2.2.2.1 bt448.2.2.2.2).bind fun bt459 => ((parcloseref03_Same.f kj2 bt459.1 bt459.2.1 bt459.2.2.1 bt459.2.2.2.1 bt459.2.2.2.2 a0_0 a0_1 l0_2 l0_3 l0_4).bind fun t470 => (if t470 = true then ((parcloselaw03_knows.f kj2).bind fun t471 => (some t471)) else (some false))))) else (some false)))) else (some false))))) = some r := H
    have A20 := asd A200
    clear A200
    replace H := Option.bind_eq_some_iff.mp H
    obtain ⟨⟨t423, t424, t425, t428, t431⟩, A210, H⟩ := H
    replace H : ((conf_Same.f kj2 t411 t412 t413 t416 t419 t423 t424 t425 t428 t431).bind fun t434 => ((parcloseref03_Same.f kj2 a0_0 a0_1 l0_2 l0_3 l0_4 a1_0 a1_1 l1_2 l1_3 l1_4).bind fun t435 => (if (t434 == t435) = true then ((conf_Clone.f kj2 t411 t412 t413 t416 t419).bind fun bt436 => ((conf_Same.f kj2 t411 t412 t413 t416 t419 bt436.1 bt436.2.1 bt436.2.2.1 bt436.2.2.2.1 bt436.2.2.2.2).bind fun t447 => (if t447 = true then ((conf_Clone.f kj2 t411 t412 t413 t416 t419).bind fun bt448 => ((parcloselaw03_Ref.f kj2 bt448.1 bt448.2.1 bt448.2.2.1 bt448.2.2.2.1 bt448.2.2.2.2).bind fun bt459 => ((parcloseref03_Same.f kj2 bt459.1 bt459.2.1 bt459.2.2.1 bt459.2.2.2.1 bt459.2.2.2.2 a0_0 a0_1 l0_2 l0_3 l0_4).bind fun t470 => (if t470 = true then ((parcloselaw03_knows.f kj2).bind fun t471 => (some t471)) else (some false))))) else (some false)))) else (some false)))) = some r := H
    have A21 := asd A210
    clear A210
    replace H := Option.bind_eq_some_iff.mp H
    obtain ⟨t434, A220, H⟩ := H
    replace H : ((parcloseref03_Same.f kj2 a0_0 a0_1 l0_2 l0_3 l0_4 a1_0 a1_1 l1_2 l1_3 l1_4).bind fun t435 => (if (t434 == t435) = true then ((conf_Clone.f kj2 t411 t412 t413 t416 t419).bind fun bt436 => ((conf_Same.f kj2 t411 t412 t413 t416 t419 bt436.1 bt436.2.1 bt436.2.2.1 bt436.2.2.2.1 bt436.2.2.2.2).bind fun t447 => (if t447 = true then ((conf_Clone.f kj2 t411 t412 t413 t416 t419).bind fun bt448 => ((parcloselaw03_Ref.f kj2 bt448.1 bt448.2.1 bt448.2.2.1 bt448.2.2.2.1 bt448.2.2.2.2).bind fun bt459 => ((parcloseref03_Same.f kj2 bt459.1 bt459.2.1 bt459.2.2.1 bt459.2.2.2.1 bt459.2.2.2.2 a0_0 a0_1 l0_2 l0_3 l0_4).bind fun t470 => (if t470 = true then ((parcloselaw03_knows.f kj2).bind fun t471 => (some t471)) else (some false))))) else (some false)))) else (some false))) = some r := H
    have A22 := asd A220
    clear A220
    replace H := Option.bind_eq_some_iff.mp H
    obtain ⟨t435, A230, H⟩ := H
    replace H : (if (t434 == t435) = true then ((conf_Clone.f kj2 t411 t412 t413 t416 t419).bind fun bt436 => ((conf_Same.f kj2 t411 t412 t413 t416 t419 bt436.1 bt436.2.1 bt436.2.2.1 bt436.2.2.2.1 bt436.2.2.2.2).bind fun t447 => (if t447 = true then ((conf_Clone.f kj2 t411 t412 t413 t416 t419).bind fun bt448 => ((parcloselaw03_Ref.f kj2 bt448.1 bt448.2.1 bt448.2.2.1 bt448.2.2.2.1 bt448.2.2.2.2).bind fun bt459 => ((parcloseref03_Same.f kj2 bt459.1 bt459.2.1 bt459.2.2.1 bt459.2.2.2.1 bt459.2.2.2.2 a0_0 a0_1 l0_2 l0_3 l0_4).bind fun t470 => (if t470 = true then ((parcloselaw03_knows.f kj2).bind fun t471 => (some t471)) else (some false))))) else (some false)))) else (some false)) = some r := H
    have A23 := asd A230
    clear A230
    by_cases c24 : (t434 == t435) = true
    ·rw [if_pos c24] at H
     have c24b0 : (t434 == t435) = true := c24
     (try (have c24b1 : decide (t434 = t435) = true := by simpa using c24))
     (try (have c24b2 : (t434 == t435) = true := by simpa using c24))
     clear c24
     replace H := Option.bind_eq_some_iff.mp H
     obtain ⟨⟨t436, t437, t438, t441, t444⟩, A250, H⟩ := H
     replace H : ((conf_Same.f kj2 t411 t412 t413 t416 t419 t436 t437 t438 t441 t444).bind fun t447 => (if t447 = true then ((conf_Clone.f kj2 t411 t412 t413 t416 t419).bind fun bt448 => ((parcloselaw03_Ref.f kj2 bt448.1 bt448.2.1 bt448.2.2.1 bt448.2.2.2.1 bt448.2.2.2.2).bind fun bt459 => ((parcloseref03_Same.f kj2 bt459.1 bt459.2.1 bt459.2.2.1 bt459.2.2.2.1 bt459.2.2.2.2 a0_0 a0_1 l0_2 l0_3 l0_4).bind fun t470 => (if t470 = true then ((parcloselaw03_knows.f kj2).bind fun t471 => (some t471)) else (some false))))) else (some false))) = some r := H
     have A25 := asd A250
     clear A250
     replace H := Option.bind_eq_some_iff.mp H
     obtain ⟨t447, A260, H⟩ := H
     replace H : (if t447 = true then ((conf_Clone.f kj2 t411 t412 t413 t416 t419).bind fun bt448 => ((parcloselaw03_Ref.f kj2 bt448.1 bt448.2.1 bt448.2.2.1 bt448.2.2.2.1 bt448.2.2.2.2).bind fun bt459 => ((parcloseref03_Same.f kj2 bt459.1 bt459.2.1 bt459.2.2.1 bt459.2.2.2.1 bt459.2.2.2.2 a0_0 a0_1 l0_2 l0_3 l0_4).bind fun t470 => (if t470 = true then ((parcloselaw03_knows.f kj2).bind fun t471 => (some t471)) else (some false))))) else (some false)) = some r := H
     have A26 := asd A260
     clear A260
     by_cases c27 : t447 = true
     ·subst c27
      have H1 : ((conf_Clone.f kj2 t411 t412 t413 t416 t419).bind fun bt448 => ((parcloselaw03_Ref.f kj2 bt448.1 bt448.2.1 bt448.2.2.1 bt448.2.2.2.1 bt448.2.2.2.2).bind fun bt459 => ((parcloseref03_Same.f kj2 bt459.1 bt459.2.1 bt459.2.2.1 bt459.2.2.2.1 bt459.2.2.2.2 a0_0 a0_1 l0_2 l0_3 l0_4).bind fun t470 => (if t470 = true then ((parcloselaw03_knows.f kj2).bind fun t471 => (some t471)) else (some false))))) = some r := by rw [if_pos rfl] at H; exact H
      clear H
      have H := H1
      clear H1
      replace H := Option.bind_eq_some_iff.mp H
      obtain ⟨⟨t448, t449, t450, t453, t456⟩, A280, H⟩ := H
      replace H : ((parcloselaw03_Ref.f kj2 t448 t449 t450 t453 t456).bind fun bt459 => ((parcloseref03_Same.f kj2 bt459.1 bt459.2.1 bt459.2.2.1 bt459.2.2.2.1 bt459.2.2.2.2 a0_0 a0_1 l0_2 l0_3 l0_4).bind fun t470 => (if t470 = true then ((parcloselaw03_knows.f kj2).bind fun t471 => (some t471)) else (some false)))) = some r := H
      have A28 := asd A280
      clear A280
      replace H := Option.bind_eq_some_iff.mp H
      obtain ⟨⟨t459, t460, t461, t464, t467⟩, A290, H⟩ := H
      replace H : ((parcloseref03_Same.f kj2 t459 t460 t461 t464 t467 a0_0 a0_1 l0_2 l0_3 l0_4).bind fun t470 => (if t470 = true then ((parcloselaw03_knows.f kj2).bind fun t471 => (some t471)) else (some false))) = some r := H
      have A29 := asd A290
      clear A290
      replace H := Option.bind_eq_some_iff.mp H
      obtain ⟨t470, A300, H⟩ := H
      replace H : (if t470 = true then ((parcloselaw03_knows.f kj2).bind fun t471 => (some t471)) else (some false)) = some r := H
      have A30 := asd A300
      clear A300
      by_cases c31 : t470 = true
      ·subst c31
       have H1 : ((parcloselaw03_knows.f kj2).bind fun t471 => (some t471)) = some r := by rw [if_pos rfl] at H; exact H
       clear H
       have H := H1
       clear H1
       replace H := Option.bind_eq_some_iff.mp H
       obtain ⟨t471, A320, H⟩ := H
       replace H : (some t471) = some r := H
       have A32 := asd A320
       clear A320
       obtain rfl := Option.some.inj H
       have hnb33 := NB406_407.out
       have hnc33 := NB407_406.out
       have hcz34_0 : wc.cell? ⟨gb406, 0, none⟩ = some (.int .i64 a0_0) := (blk_cell BK406.out 0).trans rfl
       have hcz34_1 : wc.cell? ⟨gb406, 1, none⟩ = some (.int .i64 a0_1) := (blk_cell BK406.out 1).trans rfl
       have hcz34_2 : wc.cell? ⟨gb406, 2, none⟩ = some (.slice A0_2 l0_2.length c0_2) := (blk_cell BK406.out 2).trans rfl
       have hcz34_3 : wc.cell? ⟨gb406, 3, none⟩ = some (.slice A0_3 l0_3.length c0_3) := (blk_cell BK406.out 3).trans rfl
       have hcz34_4 : wc.cell? ⟨gb406, 4, none⟩ = some (.slice A0_4 l0_4.length c0_4) := (blk_cell BK406.out 4).trans rfl
       have hfz34_0 := blk_frozen BK406.out 0
       have hfz34_1 := blk_frozen BK406.out 1
       have hfz34_2 := blk_frozen BK406.out 2
       have hfz34_3 := blk_frozen BK406.out 3
       have hfz34_4 := blk_frozen BK406.out 4
       try go_wp2_with (first | ((with_reducible refine gate_callee (f := 17) rfl ?_); refine goesL_ (some 16) rfl rfl Try.func17 (by kernel_rfl) rfl #[.agg #[.int .i64 a0_0, .int .i64 a0_1, .slice A0_2 l0_2.length c0_2, .slice A0_3 l0_3.length c0_3, .slice A0_4 l0_4.length c0_4]] rfl (by (try simp only [List.map_toArray, List.map_cons, List.map_nil]); first | done | rfl | (simp only [List.length_drop, List.length_take]; rfl)) ?_; (with_reducible refine (parcloselaw03_Config.calls kj2 a0_0 a0_1 _ _ l0_2 _ _ l0_3 _ _ l0_4 t411 t412 t413 t416 t419 _ ?side1 ?side2 ?side3 ?side4 ?side5 ?side6 A20.out).mono ?_); (case side1 => repeat (first | exact (Kd.C_below HR0_2.out HB.out) | (with_reducible refine Kd.C_alloc ?_ _) | (with_reducible refine Kd.C_drewN ?_ _) | (with_reducible refine Kd.C_drew ?_))); (case side2 => exact HC0_2.out); (case side3 => repeat (first | exact (Kd.C_below HR0_3.out HB.out) | (with_reducible refine Kd.C_alloc ?_ _) | (with_reducible refine Kd.C_drewN ?_ _) | (with_reducible refine Kd.C_drew ?_))); (case side4 => exact HC0_3.out); (case side5 => repeat (first | exact (Kd.C_below HR0_4.out HB.out) | (with_reducible refine Kd.C_alloc ?_ _) | (with_reducible refine Kd.C_drewN ?_ _) | (with_reducible refine Kd.C_drew ?_))); (case side6 => exact HC0_4.out); rintro e w35 ⟨v414, v417, v420, rfl, ho0, ho1, ho2, hb⟩; refine ⟨_, rfl, ?_⟩; have n0_ := asd (Kd.R_lower ho0 (below_size (by repeat (first | (with_reducible first | exact HB.out | apply wa | apply wn | apply wd | refine ws ?_ GE406.out | refine ws ?_ GE407.out) | exact HB.out)))); have n1_ := asd (Kd.S_lower ho1 (below_size (by repeat (first | (with_reducible first | exact HB.out | apply wa | apply wn | apply wd | refine ws ?_ GE406.out | refine ws ?_ GE407.out) | exact HB.out)))); have n2_ := asd (Kd.R_lower ho2 (below_size (by repeat (first | (with_reducible first | exact HB.out | apply wa | apply wn | apply wd | refine ws ?_ GE406.out | refine ws ?_ GE407.out) | exact HB.out)))); have n3_ := asd (blk_below (g := gb406) (o := .cells #[.int .i64 a0_0, .int .i64 a0_1, .slice A0_2 l0_2.length c0_2, .slice A0_3 l0_3.length c0_3, .slice A0_4 l0_4.length c0_4] 26 (0, 0)) (by (with_reducible repeat first | apply bn | apply bd | apply ba); exact BK406.out) hb); have n4_ := asd (blk_below (g := gb407) (o := .cells #[.int .i64 a1_0, .int .i64 a1_1, .slice A1_2 l1_2.length c1_2, .slice A1_3 l1_3.length c1_3, .slice A1_4 l1_4.length c1_4] 26 (0, 0)) (by (with_reducible repeat first | apply bn | apply bd | apply ba); exact BK407.out) hb); have n5_ := asd (below_step (by repeat (first | (with_reducible first | exact HB.out | apply wa | apply wn | apply wd | refine ws ?_ GE406.out | refine ws ?_ GE407.out) | exact HB.out)) hb); clear BK406; clear BK407; clear HB; have HO415 := n0_; have HO418 := n1_; have HO421 := n2_; have BK406 := n3_; have BK407 := n4_; have HB := n5_; clear n0_ n1_ n2_ n3_ n4_ n5_; (try clear hb); (try clear hb2); (try clear hk); (try clear hi); (try clear ho0); (try clear ho1); (try clear ho2)) | ((with_reducible refine gate_dst (N := 5) rfl ?_); refine box_event ?hg (N := 5) ?hd (cs := #[.int .i64 0, .int .i64 0, .slice none 0 0, .slice none 0 0, .slice none 0 0]) (t := 34) ?hr ?_; (case hd => rfl); (case hg => rfl); (case hr => first | (go_simp; done) | (go_simp; rfl)); intro gb422 hg w36 hbox hb; have n0_ := asd (Kd.R_below (by (with_reducible repeat (first | apply Kd.R_alloc | apply Kd.R_drewN | apply Kd.R_drew)); exact HO415.out) hb); have n1_ := asd (Kd.S_below (by (with_reducible repeat (first | apply Kd.S_alloc | apply Kd.S_drewN | apply Kd.S_drew)); exact HO418.out) hb); have n2_ := asd (Kd.R_below (by (with_reducible repeat (first | apply Kd.R_alloc | apply Kd.R_drewN | apply Kd.R_drew)); exact HO421.out) hb); have n3_ := asd (blk_below (g := gb406) (o := .cells #[.int .i64 a0_0, .int .i64 a0_1, .slice A0_2 l0_2.length c0_2, .slice A0_3 l0_3.length c0_3, .slice A0_4 l0_4.length c0_4] 26 (0, 0)) (by (with_reducible repeat first | apply bn | apply bd | apply ba); exact BK406.out) hb); have n4_ := asd (blk_below (g := gb407) (o := .cells #[.int .i64 a1_0, .int .i64 a1_1, .slice A1_2 l1_2.length c1_2, .slice A1_3 l1_3.length c1_3, .slice A1_4 l1_4.length c1_4] 26 (0, 0)) (by (with_reducible repeat first | apply bn | apply bd | apply ba); exact BK407.out) hb); have n5_ := asd (below_step (by repeat (first | (with_reducible first | exact HB.out | apply wa | apply wn | apply wd | refine ws ?_ GE406.out | refine ws ?_ GE407.out) | exact HB.out)) hb); have n6_ := asd (hbox); have n7_ := asd ((by rw [hg]; exact (below_size (by repeat (first | (with_reducible first | exact HB.out | apply wa | apply wn | apply wd | refine ws ?_ GE406.out | refine ws ?_ GE407.out) | exact HB.out))) : w.heap.size ≤ gb422)); have n8_ := asd ((by rw [hg]; exact (below_size (by repeat (first | (with_reducible first | exact HB.out | apply wa | apply wn | apply wd | refine ws ?_ GE406.out | refine ws ?_ GE407.out) | exact HB.out))) : w.heap.size ≤ gb422)); have n9_ := asd ((by rw [hg]; exact Nat.ne_of_lt (blk_lt (g := gb406) (o := .cells #[.int .i64 a0_0, .int .i64 a0_1, .slice A0_2 l0_2.length c0_2, .slice A0_3 l0_3.length c0_3, .slice A0_4 l0_4.length c0_4] 26 (0, 0)) (by (with_reducible repeat first | apply bn | apply bd | apply ba); exact BK406.out)) : gb406 ≠ gb422)); have n10_ := asd ((by rw [hg]; exact Nat.ne_of_gt (blk_lt (g := gb406) (o := .cells #[.int .i64 a0_0, .int .i64 a0_1, .slice A0_2 l0_2.length c0_2, .slice A0_3 l0_3.length c0_3, .slice A0_4 l0_4.length c0_4] 26 (0, 0)) (by (with_reducible repeat first | apply bn | apply bd | apply ba); exact BK406.out)) : gb422 ≠ gb406)); have n11_ := asd ((by rw [hg]; exact Nat.ne_of_lt (blk_lt (g := gb407) (o := .cells #[.int .i64 a1_0, .int .i64 a1_1, .slice A1_2 l1_2.length c1_2, .slice A1_3 l1_3.length c1_3, .slice A1_4 l1_4.length c1_4] 26 (0, 0)) (by (with_reducible repeat first | apply bn | apply bd | apply ba); exact BK407.out)) : gb407 ≠ gb422)); have n12_ := asd ((by rw [hg]; exact Nat.ne_of_gt (blk_lt (g := gb407) (o := .cells #[.int .i64 a1_0, .int .i64 a1_1, .slice A1_2 l1_2.length c1_2, .slice A1_3 l1_3.length c1_3, .slice A1_4 l1_4.length c1_4] 26 (0, 0)) (by (with_reducible repeat first | apply bn | apply bd | apply ba); exact BK407.out)) : gb422 ≠ gb407)); clear HO415; clear HO418; clear HO421; clear BK406; clear BK407; clear HB; have HO415 := n0_; have HO418 := n1_; have HO421 := n2_; have BK406 := n3_; have BK407 := n4_; have HB := n5_; have BK422 := n6_; have GW422 := n7_; have GE422 := n8_; have NB406_422 := n9_; have NB422_406 := n10_; have NB407_422 := n11_; have NB422_407 := n12_; clear n0_ n1_ n2_ n3_ n4_ n5_ n6_ n7_ n8_ n9_ n10_ n11_ n12_; clear hb hbox hg; have hnb37 := NB422_406.out; have hnc37 := NB406_422.out; have hnb38 := NB422_407.out; have hnc38 := NB407_422.out; have hcz39_0 : w36.cell? ⟨gb422, 0, none⟩ = some (.int .i64 0) := (blk_cell BK422.out 0).trans rfl; have hcz39_1 : w36.cell? ⟨gb422, 1, none⟩ = some (.int .i64 0) := (blk_cell BK422.out 1).trans rfl; have hcz39_2 : w36.cell? ⟨gb422, 2, none⟩ = some (.slice none 0 0) := (blk_cell BK422.out 2).trans rfl; have hcz39_3 : w36.cell? ⟨gb422, 3, none⟩ = some (.slice none 0 0) := (blk_cell BK422.out 3).trans rfl; have hcz39_4 : w36.cell? ⟨gb422, 4, none⟩ = some (.slice none 0 0) := (blk_cell BK422.out 4).trans rfl; have hfz39_0 := blk_frozen BK422.out 0; have hfz39_1 := blk_frozen BK422.out 1; have hfz39_2 := blk_frozen BK422.out 2; have hfz39_3 := blk_frozen BK422.out 3; have hfz39_4 := blk_frozen BK422.out 4; obtain ⟨Ao40, co40, eo40⟩ := Kd.R_slice HO415.out; subst eo40; obtain ⟨Ao41, co41, eo41⟩ := Kd.S_slice HO418.out; subst eo41; obtain ⟨Ao42, co42, eo42⟩ := Kd.R_slice HO421.out; subst eo42))
       have n0_ : Aside0 (Kd.R k42 42 (((((w36.setCell ⟨gb422, 0, none⟩ (.int .i64 t411)).setCell ⟨gb422, 1, none⟩ (.int .i64 t412)).setCell ⟨gb422, 2, none⟩ (.slice Ao40 t413.length co40)).setCell ⟨gb422, 3, none⟩ (.slice Ao41 t416.length co41)).setCell ⟨gb422, 4, none⟩ (.slice Ao42 t419.length co42)) w.heap.size (fun _ => True) (.slice Ao40 t413.length co40) t413) := ⟨by (with_reducible repeat (first | apply Kd.R_alloc | apply Kd.R_drewN | apply Kd.R_drew)); exact Kd.R_mono (Kd.R_far (p := ⟨gb422, 4, none⟩) (Kd.R_far (p := ⟨gb422, 3, none⟩) (Kd.R_far (p := ⟨gb422, 2, none⟩) (Kd.R_far (p := ⟨gb422, 1, none⟩) (Kd.R_far (p := ⟨gb422, 0, none⟩) (Kd.R_types HO415.out BK422.out (by decide)) (fun _ hk => hk.2) (.int .i64 t411)) (fun _ hk => hk.2) (.int .i64 t412)) (fun _ hk => hk.2) (.slice Ao40 t413.length co40)) (fun _ hk => hk.2) (.slice Ao41 t416.length co41)) (fun _ hk => hk.2) (.slice Ao42 t419.length co42)) (fun _ hk => trivial)⟩
       have n1_ : Aside0 (Kd.S k49 49 (((((w36.setCell ⟨gb422, 0, none⟩ (.int .i64 t411)).setCell ⟨gb422, 1, none⟩ (.int .i64 t412)).setCell ⟨gb422, 2, none⟩ (.slice Ao40 t413.length co40)).setCell ⟨gb422, 3, none⟩ (.slice Ao41 t416.length co41)).setCell ⟨gb422, 4, none⟩ (.slice Ao42 t419.length co42)) w.heap.size (fun _ => True) (.slice Ao41 t416.length co41) t416) := ⟨by (with_reducible repeat (first | apply Kd.S_alloc | apply Kd.S_drewN | apply Kd.S_drew)); exact Kd.S_mono (Kd.S_far (p := ⟨gb422, 4, none⟩) (Kd.S_far (p := ⟨gb422, 3, none⟩) (Kd.S_far (p := ⟨gb422, 2, none⟩) (Kd.S_far (p := ⟨gb422, 1, none⟩) (Kd.S_far (p := ⟨gb422, 0, none⟩) (Kd.S_types HO418.out BK422.out (by decide)) (fun _ hk => hk.2) (.int .i64 t411)) (fun _ hk => hk.2) (.int .i64 t412)) (fun _ hk => hk.2) (.slice Ao40 t413.length co40)) (fun _ hk => hk.2) (.slice Ao41 t416.length co41)) (fun _ hk => hk.2) (.slice Ao42 t419.length co42)) (fun _ hk => trivial)⟩
       have n2_ : Aside0 (Kd.R k44 44 (((((w36.setCell ⟨gb422, 0, none⟩ (.int .i64 t411)).setCell ⟨gb422, 1, none⟩ (.int .i64 t412)).setCell ⟨gb422, 2, none⟩ (.slice Ao40 t413.length co40)).setCell ⟨gb422, 3, none⟩ (.slice Ao41 t416.length co41)).setCell ⟨gb422, 4, none⟩ (.slice Ao42 t419.length co42)) w.heap.size (fun _ => True) (.slice Ao42 t419.length co42) t419) := ⟨by (with_reducible repeat (first | apply Kd.R_alloc | apply Kd.R_drewN | apply Kd.R_drew)); exact Kd.R_mono (Kd.R_far (p := ⟨gb422, 4, none⟩) (Kd.R_far (p := ⟨gb422, 3, none⟩) (Kd.R_far (p := ⟨gb422, 2, none⟩) (Kd.R_far (p := ⟨gb422, 1, none⟩) (Kd.R_far (p := ⟨gb422, 0, none⟩) (Kd.R_types HO421.out BK422.out (by decide)) (fun _ hk => hk.2) (.int .i64 t411)) (fun _ hk => hk.2) (.int .i64 t412)) (fun _ hk => hk.2) (.slice Ao40 t413.length co40)) (fun _ hk => hk.2) (.slice Ao41 t416.length co41)) (fun _ hk => hk.2) (.slice Ao42 t419.length co42)) (fun _ hk => trivial)⟩
       have n3_ : Aside0 ((((((w36.setCell ⟨gb422, 0, none⟩ (.int .i64 t411)).setCell ⟨gb422, 1, none⟩ (.int .i64 t412)).setCell ⟨gb422, 2, none⟩ (.slice Ao40 t413.length co40)).setCell ⟨gb422, 3, none⟩ (.slice Ao41 t416.length co41)).setCell ⟨gb422, 4, none⟩ (.slice Ao42 t419.length co42)).heap[gb406]? = some (.cells #[.int .i64 a0_0, .int .i64 a0_1, .slice A0_2 l0_2.length c0_2, .slice A0_3 l0_3.length c0_3, .slice A0_4 l0_4.length c0_4] 26 (0, 0))) := ⟨by (with_reducible repeat first | apply bn | apply bd | apply ba); refine blk_far ?_ NB406_422.out _; (with_reducible repeat first | apply bn | apply bd | apply ba); refine blk_far ?_ NB406_422.out _; (with_reducible repeat first | apply bn | apply bd | apply ba); refine blk_far ?_ NB406_422.out _; (with_reducible repeat first | apply bn | apply bd | apply ba); refine blk_far ?_ NB406_422.out _; (with_reducible repeat first | apply bn | apply bd | apply ba); refine blk_far ?_ NB406_422.out _; (with_reducible repeat first | apply bn | apply bd | apply ba); exact BK406.out⟩
       have n4_ : Aside0 ((((((w36.setCell ⟨gb422, 0, none⟩ (.int .i64 t411)).setCell ⟨gb422, 1, none⟩ (.int .i64 t412)).setCell ⟨gb422, 2, none⟩ (.slice Ao40 t413.length co40)).setCell ⟨gb422, 3, none⟩ (.slice Ao41 t416.length co41)).setCell ⟨gb422, 4, none⟩ (.slice Ao42 t419.length co42)).heap[gb407]? = some (.cells #[.int .i64 a1_0, .int .i64 a1_1, .slice A1_2 l1_2.length c1_2, .slice A1_3 l1_3.length c1_3, .slice A1_4 l1_4.length c1_4] 26 (0, 0))) := ⟨by (with_reducible repeat first | apply bn | apply bd | apply ba); refine blk_far ?_ NB407_422.out _; (with_reducible repeat first | apply bn | apply bd | apply ba); refine blk_far ?_ NB407_422.out _; (with_reducible repeat first | apply bn | apply bd | apply ba); refine blk_far ?_ NB407_422.out _; (with_reducible repeat first | apply bn | apply bd | apply ba); refine blk_far ?_ NB407_422.out _; (with_reducible repeat first | apply bn | apply bd | apply ba); refine blk_far ?_ NB407_422.out _; (with_reducible repeat first | apply bn | apply bd | apply ba); exact BK407.out⟩
       have n5_ : Aside0 ((((((w36.setCell ⟨gb422, 0, none⟩ (.int .i64 t411)).setCell ⟨gb422, 1, none⟩ (.int .i64 t412)).setCell ⟨gb422, 2, none⟩ (.slice Ao40 t413.length co40)).setCell ⟨gb422, 3, none⟩ (.slice Ao41 t416.length co41)).setCell ⟨gb422, 4, none⟩ (.slice Ao42 t419.length co42)).heap[gb422]? = some (.cells #[.int .i64 t411, .int .i64 t412, .slice Ao40 t413.length co40, .slice Ao41 t416.length co41, .slice Ao42 t419.length co42] 34 (0, 0))) := ⟨by (with_reducible repeat first | apply bn | apply bd | apply ba); refine blk_put (cs := #[.int .i64 t411, .int .i64 t412, .slice Ao40 t413.length co40, .slice Ao41 t416.length co41, .slice none 0 0]) ?_ 4 _ rfl; (with_reducible repeat first | apply bn | apply bd | apply ba); refine blk_put (cs := #[.int .i64 t411, .int .i64 t412, .slice Ao40 t413.length co40, .slice none 0 0, .slice none 0 0]) ?_ 3 _ rfl; (with_reducible repeat first | apply bn | apply bd | apply ba); refine blk_put (cs := #[.int .i64 t411, .int .i64 t412, .slice none 0 0, .slice none 0 0, .slice none 0 0]) ?_ 2 _ rfl; (with_reducible repeat first | apply bn | apply bd | apply ba); refine blk_put (cs := #[.int .i64 t411, .int .i64 0, .slice none 0 0, .slice none 0 0, .slice none 0 0]) ?_ 1 _ rfl; (with_reducible repeat first | apply bn | apply bd | apply ba); refine blk_put (cs := #[.int .i64 0, .int .i64 0, .slice none 0 0, .slice none 0 0, .slice none 0 0]) ?_ 0 _ rfl; (with_reducible repeat first | apply bn | apply bd | apply ba); exact BK422.out⟩
       have n6_ : Aside0 (Below w.heap.size w (((((w36.setCell ⟨gb422, 0, none⟩ (.int .i64 t411)).setCell ⟨gb422, 1, none⟩ (.int .i64 t412)).setCell ⟨gb422, 2, none⟩ (.slice Ao40 t413.length co40)).setCell ⟨gb422, 3, none⟩ (.slice Ao41 t416.length co41)).setCell ⟨gb422, 4, none⟩ (.slice Ao42 t419.length co42))) := ⟨by repeat (first | (with_reducible first | exact HB.out | apply wa | apply wn | apply wd | refine ws ?_ GE406.out | refine ws ?_ GE407.out | refine ws ?_ GE422.out) | exact HB.out)⟩
       (try clear HO415)
       (try clear HO418)
       (try clear HO421)
       (try clear BK406)
       (try clear BK407)
       (try clear BK422)
       (try clear HB)
       generalize (((((w36.setCell ⟨gb422, 0, none⟩ (.int .i64 t411)).setCell ⟨gb422, 1, none⟩ (.int .i64 t412)).setCell ⟨gb422, 2, none⟩ (.slice Ao40 t413.length co40)).setCell ⟨gb422, 3, none⟩ (.slice Ao41 t416.length co41)).setCell ⟨gb422, 4, none⟩ (.slice Ao42 t419.length co42)) = w43 at n0_ n1_ n2_ n3_ n4_ n5_ n6_ ⊢
       have HO415 := n0_
       have HO418 := n1_
       have HO421 := n2_
       have BK406 := n3_
       have BK407 := n4_
       have BK422 := n5_
       have HB := n6_
       clear n0_ n1_ n2_ n3_ n4_ n5_ n6_
       have n0_ := asd (Kd.R_drew HO415.out)
       have n1_ := asd (Kd.S_drew HO418.out)
       have n2_ := asd (Kd.R_drew HO421.out)
       have n3_ := asd (blk_drew BK406.out)
       have n4_ := asd (blk_drew BK407.out)
       have n5_ := asd (blk_drew BK422.out)
       have n6_ := asd (below_drew1 HB.out)
       clear HO415
       clear HO418
       clear HO421
       clear BK406
       clear BK407
       clear BK422
       clear HB
       have HO415 := n0_
       have HO418 := n1_
       have HO421 := n2_
       have BK406 := n3_
       have BK407 := n4_
       have BK422 := n5_
       have HB := n6_
       clear n0_ n1_ n2_ n3_ n4_ n5_ n6_
       refine start_ (n := 25) (S := fun w' => w'.cell? ⟨gb422, 0, none⟩ = some (.int .i64 t411) ∧ w'.cell? ⟨gb422, 1, none⟩ = some (.int .i64 t412) ∧ w'.cell? ⟨gb422, 2, none⟩ = some (.slice Ao40 t413.length co40) ∧ w'.cell? ⟨gb422, 3, none⟩ = some (.slice Ao41 t416.length co41) ∧ w'.cell? ⟨gb422, 4, none⟩ = some (.slice Ao42 t419.length co42) ∧ w'.cell? ⟨gb407, 0, none⟩ = some (.int .i64 a1_0) ∧ w'.cell? ⟨gb407, 1, none⟩ = some (.int .i64 a1_1) ∧ w'.cell? ⟨gb407, 2, none⟩ = some (.slice A1_2 l1_2.length c1_2) ∧ w'.cell? ⟨gb407, 3, none⟩ = some (.slice A1_3 l1_3.length c1_3) ∧ w'.cell? ⟨gb407, 4, none⟩ = some (.slice A1_4 l1_4.length c1_4) ∧ w'.cell? ⟨gb406, 0, none⟩ = some (.int .i64 a0_0) ∧ w'.cell? ⟨gb406, 1, none⟩ = some (.int .i64 a0_1) ∧ w'.cell? ⟨gb406, 2, none⟩ = some (.slice A0_2 l0_2.length c0_2) ∧ w'.cell? ⟨gb406, 3, none⟩ = some (.slice A0_3 l0_3.length c0_3) ∧ w'.cell? ⟨gb406, 4, none⟩ = some (.slice A0_4 l0_4.length c0_4)) (ds := []) #[false, false, false, false, false, false, false, false, false, false, false, false, false, false, false, false, false, false, false, false, false, false, false, false, false] (by kernel_rfl) rfl rfl ⟨(blk_cell BK422.out 0).trans rfl, (blk_cell BK422.out 1).trans rfl, (blk_cell BK422.out 2).trans rfl, (blk_cell BK422.out 3).trans rfl, (blk_cell BK422.out 4).trans rfl, (blk_cell BK407.out 0).trans rfl, (blk_cell BK407.out 1).trans rfl, (blk_cell BK407.out 2).trans rfl, (blk_cell BK407.out 3).trans rfl, (blk_cell BK407.out 4).trans rfl, (blk_cell BK406.out 0).trans rfl, (blk_cell BK406.out 1).trans rfl, (blk_cell BK406.out 2).trans rfl, (blk_cell BK406.out 3).trans rfl, (blk_cell BK406.out 4).trans rfl⟩ (fun hHeld => ?_); refine with_tabW parcloselaw03_ConfSames.tab4 parcloselaw03_ConfSames.bits4 (fun HT_ HW_ => ?_)
       generalize w43.drew = w44 at HO415 HO418 HO421 BK406 BK407 BK422 HB hHeld ⊢
       refine take_ (i := 0) (N := some 17) (v := ?_) (a' := ?_) #[true, false, false, false, false, false, false, false, false, false, false, false, false, false, false, false, false, false, false, false, false, false, false, false, false] rfl rfl (take_ofW HT_.out HW_.out (by kernel_rfl)) (fun _ _ _ h => h) (Or.inl ⟨by rfl, ?_⟩) hHeld ?_ ?_
       rotate_left
       ·rintro w' ⟨s0, s1, s2, s3, s4, s5, s6, s7, s8, s9, s10, s11, s12, s13, s14⟩
        go_simp
        with_reducible rfl
       rotate_left
       ·simp only [Act.put, sB, i64_w, i32_w]
        rfl
       refine take_ (i := 1) (N := some 18) (v := ?_) (a' := ?_) #[true, true, false, false, false, false, false, false, false, false, false, false, false, false, false, false, false, false, false, false, false, false, false, false, false] rfl rfl (take_ofW HT_.out HW_.out (by kernel_rfl)) (fun _ _ _ h => h) (Or.inl ⟨by rfl, ?_⟩) hHeld ?_ ?_
       rotate_left
       ·rintro w' ⟨s0, s1, s2, s3, s4, s5, s6, s7, s8, s9, s10, s11, s12, s13, s14⟩
        go_simp
        with_reducible rfl
       rotate_left
       ·simp only [Act.put, sB, i64_w, i32_w]
        rfl
       refine take_ (i := 4) (N := some 21) (v := ?_) (a' := ?_) #[true, true, false, false, true, false, false, false, false, false, false, false, false, false, false, false, false, false, false, false, false, false, false, false, false] rfl rfl (take_ofW HT_.out HW_.out (by kernel_rfl)) (fun _ _ _ h => h) (Or.inl ⟨by rfl, ?_⟩) hHeld ?_ ?_
       rotate_left
       ·rintro w' ⟨s0, s1, s2, s3, s4, s5, s6, s7, s8, s9, s10, s11, s12, s13, s14⟩
        go_simp
        with_reducible rfl
       rotate_left
       ·simp only [Act.put, sB, i64_w, i32_w]
        rfl
       refine take_ (i := 5) (N := some 22) (v := ?_) (a' := ?_) #[true, true, false, false, true, true, false, false, false, false, false, false, false, false, false, false, false, false, false, false, false, false, false, false, false] rfl rfl (take_ofW HT_.out HW_.out (by kernel_rfl)) (fun _ _ _ h => h) (Or.inl ⟨by rfl, ?_⟩) hHeld ?_ ?_
       rotate_left
       ·rintro w' ⟨s0, s1, s2, s3, s4, s5, s6, s7, s8, s9, s10, s11, s12, s13, s14⟩
        go_simp
        with_reducible rfl
       rotate_left
       ·simp only [Act.put, sB, i64_w, i32_w]
        rfl
       refine one_ (i := 2) (N := some 19) #[true, true, true, false, true, true, false, false, false, false, false, false, false, false, false, false, false, false, false, false, false, false, false, false, false] rfl rfl (one_of HT_.out (by kernel_rfl)) (by decide) (fun K hK => ?_)
       refine goes_ Try.func17 (by kernel_rfl) rfl #[.agg #[.int .i64 a1_0, .int .i64 a1_1, .slice A1_2 l1_2.length c1_2, .slice A1_3 l1_3.length c1_3, .slice A1_4 l1_4.length c1_4]] (by rfl) rfl rfl (by (try simp only [List.map_toArray, List.map_cons, List.map_nil]); first | done | rfl | (simp only [List.length_drop, List.length_take]; rfl)) ?_
       with_reducible refine (parcloselaw03_Config.calls kj2 a1_0 a1_1 _ _ l1_2 _ _ l1_3 _ _ l1_4 t423 t424 t425 t428 t431 _ ?side1 ?side2 ?side3 ?side4 ?side5 ?side6 A21.out).mono ?_
       (case side1 => repeat (first | exact (Kd.C_below HR1_2.out HB.out) | (with_reducible refine Kd.C_alloc ?_ _) | (with_reducible refine Kd.C_drewN ?_ _) | (with_reducible refine Kd.C_drew ?_)))
       (case side2 => exact HC1_2.out)
       (case side3 => repeat (first | exact (Kd.C_below HR1_3.out HB.out) | (with_reducible refine Kd.C_alloc ?_ _) | (with_reducible refine Kd.C_drewN ?_ _) | (with_reducible refine Kd.C_drew ?_)))
       (case side4 => exact HC1_3.out)
       (case side5 => repeat (first | exact (Kd.C_below HR1_4.out HB.out) | (with_reducible refine Kd.C_alloc ?_ _) | (with_reducible refine Kd.C_drewN ?_ _) | (with_reducible refine Kd.C_drew ?_)))
       (case side6 => exact HC1_4.out)
       rintro e w45 ⟨v426, v429, v432, rfl, ho0, ho1, ho2, hb⟩
       refine ⟨_, rfl, ?_⟩
       have n0_ := asd (Kd.R_elder' (by (with_reducible repeat (first | apply Kd.R_alloc | apply Kd.R_drewN | apply Kd.R_drew)); exact HO415.out) (Kd.R_base ho0) hb)
       have n1_ := asd (Kd.S_elder' (by (with_reducible repeat (first | apply Kd.S_alloc | apply Kd.S_drewN | apply Kd.S_drew)); exact HO418.out) (Kd.S_base ho1) hb)
       have n2_ := asd (Kd.R_elder' (by (with_reducible repeat (first | apply Kd.R_alloc | apply Kd.R_drewN | apply Kd.R_drew)); exact HO421.out) (Kd.R_base ho2) hb)
       have n3_ := asd (Kd.R_lower (Kd.R_new' ho0 (Kd.R_lt (by (with_reducible repeat (first | apply Kd.R_alloc | apply Kd.R_drewN | apply Kd.R_drew)); exact HO415.out))) (below_size (by repeat (first | (with_reducible first | exact HB.out | apply wa | apply wn | apply wd | refine ws ?_ GE406.out | refine ws ?_ GE407.out | refine ws ?_ GE422.out) | exact HB.out))))
       have n4_ := asd (Kd.S_lower (Kd.S_new' ho1 (Kd.S_lt (by (with_reducible repeat (first | apply Kd.S_alloc | apply Kd.S_drewN | apply Kd.S_drew)); exact HO418.out))) (below_size (by repeat (first | (with_reducible first | exact HB.out | apply wa | apply wn | apply wd | refine ws ?_ GE406.out | refine ws ?_ GE407.out | refine ws ?_ GE422.out) | exact HB.out))))
       have n5_ := asd (Kd.R_lower (Kd.R_new' ho2 (Kd.R_lt (by (with_reducible repeat (first | apply Kd.R_alloc | apply Kd.R_drewN | apply Kd.R_drew)); exact HO421.out))) (below_size (by repeat (first | (with_reducible first | exact HB.out | apply wa | apply wn | apply wd | refine ws ?_ GE406.out | refine ws ?_ GE407.out | refine ws ?_ GE422.out) | exact HB.out))))
       have n6_ := asd (blk_below (g := gb406) (o := .cells #[.int .i64 a0_0, .int .i64 a0_1, .slice A0_2 l0_2.length c0_2, .slice A0_3 l0_3.length c0_3, .slice A0_4 l0_4.length c0_4] 26 (0, 0)) (by (with_reducible repeat first | apply bn | apply bd | apply ba); exact BK406.out) hb)
       have n7_ := asd (blk_below (g := gb407) (o := .cells #[.int .i64 a1_0, .int .i64 a1_1, .slice A1_2 l1_2.length c1_2, .slice A1_3 l1_3.length c1_3, .slice A1_4 l1_4.length c1_4] 26 (0, 0)) (by (with_reducible repeat first | apply bn | apply bd | apply ba); exact BK407.out) hb)
       have n8_ := asd (blk_below (g := gb422) (o := .cells #[.int .i64 t411, .int .i64 t412, .slice Ao40 t413.length co40, .slice Ao41 t416.length co41, .slice Ao42 t419.length co42] 34 (0, 0)) (by (with_reducible repeat first | apply bn | apply bd | apply ba); exact BK422.out) hb)
       have n9_ := asd (below_step (by repeat (first | (with_reducible first | exact HB.out | apply wa | apply wn | apply wd | refine ws ?_ GE406.out | refine ws ?_ GE407.out | refine ws ?_ GE422.out) | exact HB.out)) hb)
       clear HO415
       clear HO418
       clear HO421
       clear BK406
       clear BK407
       clear BK422
       clear HB
       have HO415 := n0_
       have HO418 := n1_
       have HO421 := n2_
       have HO427 := n3_
       have HO430 := n4_
       have HO433 := n5_
       have BK406 := n6_
       have BK407 := n7_
       have BK422 := n8_
       have HB := n9_
       clear n0_ n1_ n2_ n3_ n4_ n5_ n6_ n7_ n8_ n9_
       (try clear hb)
       (try clear hb2)
       (try clear hk)
       (try clear hi)
       (try clear ho0)
       (try clear ho1)
       (try clear ho2)
       obtain ⟨Ao46, co46, eo46⟩ := Kd.R_slice HO427.out
       (first | subst eo46 | (injection eo46 with f1_ f2_ f3_; have f4_ := f1_.symm; have f5_ := f3_.symm; clear f1_ f2_ f3_; subst f4_; subst f5_))
       obtain ⟨Ao47, co47, eo47⟩ := Kd.S_slice HO430.out
       (first | subst eo47 | (injection eo47 with f1_ f2_ f3_; have f4_ := f1_.symm; have f5_ := f3_.symm; clear f1_ f2_ f3_; subst f4_; subst f5_))
       obtain ⟨Ao48, co48, eo48⟩ := Kd.R_slice HO433.out
       (first | subst eo48 | (injection eo48 with f1_ f2_ f3_; have f4_ := f1_.symm; have f5_ := f3_.symm; clear f1_ f2_ f3_; subst f4_; subst f5_))
       refine hK.out _ _ ⟨(blk_cell BK422.out 0).trans rfl, (blk_cell BK422.out 1).trans rfl, (blk_cell BK422.out 2).trans rfl, (blk_cell BK422.out 3).trans rfl, (blk_cell BK422.out 4).trans rfl, (blk_cell BK407.out 0).trans rfl, (blk_cell BK407.out 1).trans rfl, (blk_cell BK407.out 2).trans rfl, (blk_cell BK407.out 3).trans rfl, (blk_cell BK407.out 4).trans rfl, (blk_cell BK406.out 0).trans rfl, (blk_cell BK406.out 1).trans rfl, (blk_cell BK406.out 2).trans rfl, (blk_cell BK406.out 3).trans rfl, (blk_cell BK406.out 4).trans rfl⟩ (fun hHeld => ?_)
       clear hK K
       refine norm_ (a' := ?_) ?_ ?_
       rotate_left
       ·show Act.put _ (some 19) _ = _
        simp only [Act.put, sB, i64_w, i32_w]
        rfl
       refine one_ (i := 3) (N := some 20) #[true, true, true, true, true, true, false, false, false, false, false, false, false, false, false, false, false, false, false, false, false, false, false, false, false] rfl rfl (one_of HT_.out (by kernel_rfl)) (by decide) (fun K hK => ?_)
       refine goes_ Try.func34 (by kernel_rfl) rfl #[.agg #[.int .i64 t411, .int .i64 t412, .slice Ao40 t413.length co40, .slice Ao41 t416.length co41, .slice Ao42 t419.length co42], .agg #[.int .i64 t423, .int .i64 t424, .slice Ao46 t425.length co46, .slice Ao47 t428.length co47, .slice Ao48 t431.length co48]] (by rfl) rfl rfl (by (try simp only [List.map_toArray, List.map_cons, List.map_nil]); first | done | rfl | (simp only [List.length_drop, List.length_take]; rfl)) ?_
       with_reducible refine (conf_Same.calls kj2 t411 t412 _ _ t413 _ _ t416 _ _ t419 t423 t424 _ _ t425 _ _ t428 _ _ t431 t434 _ ?side1 ?side2 ?side3 ?side4 ?side5 ?side6 ?side7 ?side8 ?side9 ?side10 ?side11 ?side12 A22.out).mono ?_
       (case side1 => repeat (first | exact (Kd.R_reads' HO415.out).2.2 | (with_reducible refine Kd.C_alloc ?_ _) | (with_reducible refine Kd.C_drewN ?_ _) | (with_reducible refine Kd.C_drew ?_)))
       (case side2 => exact (Kd.R_reads' HO415.out).2.1)
       (case side3 => repeat (first | exact (Kd.S_reads' HO418.out).2.2 | (with_reducible refine Kd.C_alloc ?_ _) | (with_reducible refine Kd.C_drewN ?_ _) | (with_reducible refine Kd.C_drew ?_)))
       (case side4 => exact (Kd.S_reads' HO418.out).2.1)
       (case side5 => repeat (first | exact (Kd.R_reads' HO421.out).2.2 | (with_reducible refine Kd.C_alloc ?_ _) | (with_reducible refine Kd.C_drewN ?_ _) | (with_reducible refine Kd.C_drew ?_)))
       (case side6 => exact (Kd.R_reads' HO421.out).2.1)
       (case side7 => repeat (first | exact (Kd.R_reads' HO427.out).2.2 | (with_reducible refine Kd.C_alloc ?_ _) | (with_reducible refine Kd.C_drewN ?_ _) | (with_reducible refine Kd.C_drew ?_)))
       (case side8 => exact (Kd.R_reads' HO427.out).2.1)
       (case side9 => repeat (first | exact (Kd.S_reads' HO430.out).2.2 | (with_reducible refine Kd.C_alloc ?_ _) | (with_reducible refine Kd.C_drewN ?_ _) | (with_reducible refine Kd.C_drew ?_)))
       (case side10 => exact (Kd.S_reads' HO430.out).2.1)
       (case side11 => repeat (first | exact (Kd.R_reads' HO433.out).2.2 | (with_reducible refine Kd.C_alloc ?_ _) | (with_reducible refine Kd.C_drewN ?_ _) | (with_reducible refine Kd.C_drew ?_)))
       (case side12 => exact (Kd.R_reads' HO433.out).2.1)
       rintro e w49 ⟨rfl, hb⟩
       refine ⟨_, rfl, ?_⟩
       have n0_ := asd (Kd.R_below (by (with_reducible repeat (first | apply Kd.R_alloc | apply Kd.R_drewN | apply Kd.R_drew)); exact HO415.out) hb)
       have n1_ := asd (Kd.S_below (by (with_reducible repeat (first | apply Kd.S_alloc | apply Kd.S_drewN | apply Kd.S_drew)); exact HO418.out) hb)
       have n2_ := asd (Kd.R_below (by (with_reducible repeat (first | apply Kd.R_alloc | apply Kd.R_drewN | apply Kd.R_drew)); exact HO421.out) hb)
       have n3_ := asd (Kd.R_below (by (with_reducible repeat (first | apply Kd.R_alloc | apply Kd.R_drewN | apply Kd.R_drew)); exact HO427.out) hb)
       have n4_ := asd (Kd.S_below (by (with_reducible repeat (first | apply Kd.S_alloc | apply Kd.S_drewN | apply Kd.S_drew)); exact HO430.out) hb)
       have n5_ := asd (Kd.R_below (by (with_reducible repeat (first | apply Kd.R_alloc | apply Kd.R_drewN | apply Kd.R_drew)); exact HO433.out) hb)
       have n6_ := asd (blk_below (g := gb406) (o := .cells #[.int .i64 a0_0, .int .i64 a0_1, .slice A0_2 l0_2.length c0_2, .slice A0_3 l0_3.length c0_3, .slice A0_4 l0_4.length c0_4] 26 (0, 0)) (by (with_reducible repeat first | apply bn | apply bd | apply ba); exact BK406.out) hb)
       have n7_ := asd (blk_below (g := gb407) (o := .cells #[.int .i64 a1_0, .int .i64 a1_1, .slice A1_2 l1_2.length c1_2, .slice A1_3 l1_3.length c1_3, .slice A1_4 l1_4.length c1_4] 26 (0, 0)) (by (with_reducible repeat first | apply bn | apply bd | apply ba); exact BK407.out) hb)
       have n8_ := asd (blk_below (g := gb422) (o := .cells #[.int .i64 t411, .int .i64 t412, .slice Ao40 t413.length co40, .slice Ao41 t416.length co41, .slice Ao42 t419.length co42] 34 (0, 0)) (by (with_reducible repeat first | apply bn | apply bd | apply ba); exact BK422.out) hb)
       have n9_ := asd (below_step (by repeat (first | (with_reducible first | exact HB.out | apply wa | apply wn | apply wd | refine ws ?_ GE406.out | refine ws ?_ GE407.out | refine ws ?_ GE422.out) | exact HB.out)) hb)
       clear HO415
       clear HO418
       clear HO421
       clear HO427
       clear HO430
       clear HO433
       clear BK406
       clear BK407
       clear BK422
       clear HB
       have HO415 := n0_
       have HO418 := n1_
       have HO421 := n2_
       have HO427 := n3_
       have HO430 := n4_
       have HO433 := n5_
       have BK406 := n6_
       have BK407 := n7_
       have BK422 := n8_
       have HB := n9_
       clear n0_ n1_ n2_ n3_ n4_ n5_ n6_ n7_ n8_ n9_
       (try clear hb)
       (try clear hb2)
       (try clear hk)
       (try clear hi)
       refine hK.out _ _ ⟨(blk_cell BK422.out 0).trans rfl, (blk_cell BK422.out 1).trans rfl, (blk_cell BK422.out 2).trans rfl, (blk_cell BK422.out 3).trans rfl, (blk_cell BK422.out 4).trans rfl, (blk_cell BK407.out 0).trans rfl, (blk_cell BK407.out 1).trans rfl, (blk_cell BK407.out 2).trans rfl, (blk_cell BK407.out 3).trans rfl, (blk_cell BK407.out 4).trans rfl, (blk_cell BK406.out 0).trans rfl, (blk_cell BK406.out 1).trans rfl, (blk_cell BK406.out 2).trans rfl, (blk_cell BK406.out 3).trans rfl, (blk_cell BK406.out 4).trans rfl⟩ (fun hHeld => ?_)
       clear hK K
       refine norm_ (a' := ?_) ?_ ?_
       rotate_left
       ·show Act.put _ (some 20) _ = _
        simp only [Act.put, sB, i64_w, i32_w]
        rfl
       refine one_ (i := 6) (N := some 23) #[true, true, true, true, true, true, true, false, false, false, false, false, false, false, false, false, false, false, false, false, false, false, false, false, false] rfl rfl (one_of HT_.out (by kernel_rfl)) (by decide) (fun K hK => ?_)
       refine goes_ Try.func23 (by kernel_rfl) rfl #[.agg #[.int .i64 a0_0, .int .i64 a0_1, .slice A0_2 l0_2.length c0_2, .slice A0_3 l0_3.length c0_3, .slice A0_4 l0_4.length c0_4], .agg #[.int .i64 a1_0, .int .i64 a1_1, .slice A1_2 l1_2.length c1_2, .slice A1_3 l1_3.length c1_3, .slice A1_4 l1_4.length c1_4]] (by rfl) rfl rfl (by (try simp only [List.map_toArray, List.map_cons, List.map_nil]); first | done | rfl | (simp only [List.length_drop, List.length_take]; rfl)) ?_
       with_reducible refine (parcloseref03_Same.calls kj2 a0_0 a0_1 _ _ l0_2 _ _ l0_3 _ _ l0_4 a1_0 a1_1 _ _ l1_2 _ _ l1_3 _ _ l1_4 t435 _ ?side1 ?side2 ?side3 ?side4 ?side5 ?side6 ?side7 ?side8 ?side9 ?side10 ?side11 ?side12 A23.out).mono ?_
       (case side1 => repeat (first | exact (Kd.C_below HR0_2.out HB.out) | (with_reducible refine Kd.C_alloc ?_ _) | (with_reducible refine Kd.C_drewN ?_ _) | (with_reducible refine Kd.C_drew ?_)))
       (case side2 => exact HC0_2.out)
       (case side3 => repeat (first | exact (Kd.C_below HR0_3.out HB.out) | (with_reducible refine Kd.C_alloc ?_ _) | (with_reducible refine Kd.C_drewN ?_ _) | (with_reducible refine Kd.C_drew ?_)))
       (case side4 => exact HC0_3.out)
       (case side5 => repeat (first | exact (Kd.C_below HR0_4.out HB.out) | (with_reducible refine Kd.C_alloc ?_ _) | (with_reducible refine Kd.C_drewN ?_ _) | (with_reducible refine Kd.C_drew ?_)))
       (case side6 => exact HC0_4.out)
       (case side7 => repeat (first | exact (Kd.C_below HR1_2.out HB.out) | (with_reducible refine Kd.C_alloc ?_ _) | (with_reducible refine Kd.C_drewN ?_ _) | (with_reducible refine Kd.C_drew ?_)))
       (case side8 => exact HC1_2.out)
       (case side9 => repeat (first | exact (Kd.C_below HR1_3.out HB.out) | (with_reducible refine Kd.C_alloc ?_ _) | (with_reducible refine Kd.C_drewN ?_ _) | (with_reducible refine Kd.C_drew ?_)))
       (case side10 => exact HC1_3.out)
       (case side11 => repeat (first | exact (Kd.C_below HR1_4.out HB.out) | (with_reducible refine Kd.C_alloc ?_ _) | (with_reducible refine Kd.C_drewN ?_ _) | (with_reducible refine Kd.C_drew ?_)))
       (case side12 => exact HC1_4.out)
       rintro e w50 ⟨rfl, hb⟩
       refine ⟨_, rfl, ?_⟩
       have n0_ := asd (Kd.R_below (by (with_reducible repeat (first | apply Kd.R_alloc | apply Kd.R_drewN | apply Kd.R_drew)); exact HO415.out) hb)
       have n1_ := asd (Kd.S_below (by (with_reducible repeat (first | apply Kd.S_alloc | apply Kd.S_drewN | apply Kd.S_drew)); exact HO418.out) hb)
       have n2_ := asd (Kd.R_below (by (with_reducible repeat (first | apply Kd.R_alloc | apply Kd.R_drewN | apply Kd.R_drew)); exact HO421.out) hb)
       have n3_ := asd (Kd.R_below (by (with_reducible repeat (first | apply Kd.R_alloc | apply Kd.R_drewN | apply Kd.R_drew)); exact HO427.out) hb)
       have n4_ := asd (Kd.S_below (by (with_reducible repeat (first | apply Kd.S_alloc | apply Kd.S_drewN | apply Kd.S_drew)); exact HO430.out) hb)
       have n5_ := asd (Kd.R_below (by (with_reducible repeat (first | apply Kd.R_alloc | apply Kd.R_drewN | apply Kd.R_drew)); exact HO433.out) hb)
       have n6_ := asd (blk_below (g := gb406) (o := .cells #[.int .i64 a0_0, .int .i64 a0_1, .slice A0_2 l0_2.length c0_2, .slice A0_3 l0_3.length c0_3, .slice A0_4 l0_4.length c0_4] 26 (0, 0)) (by (with_reducible repeat first | apply bn | apply bd | apply ba); exact BK406.out) hb)
       have n7_ := asd (blk_below (g := gb407) (o := .cells #[.int .i64 a1_0, .int .i64 a1_1, .slice A1_2 l1_2.length c1_2, .slice A1_3 l1_3.length c1_3, .slice A1_4 l1_4.length c1_4] 26 (0, 0)) (by (with_reducible repeat first | apply bn | apply bd | apply ba); exact BK407.out) hb)
       have n8_ := asd (blk_below (g := gb422) (o := .cells #[.int .i64 t411, .int .i64 t412, .slice Ao40 t413.length co40, .slice Ao41 t416.length co41, .slice Ao42 t419.length co42] 34 (0, 0)) (by (with_reducible repeat first | apply bn | apply bd | apply ba); exact BK422.out) hb)
       have n9_ := asd (below_step (by repeat (first | (with_reducible first | exact HB.out | apply wa | apply wn | apply wd | refine ws ?_ GE406.out | refine ws ?_ GE407.out | refine ws ?_ GE422.out) | exact HB.out)) hb)
       clear HO415
       clear HO418
       clear HO421
       clear HO427
       clear HO430
       clear HO433
       clear BK406
       clear BK407
       clear BK422
       clear HB
       have HO415 := n0_
       have HO418 := n1_
       have HO421 := n2_
       have HO427 := n3_
       have HO430 := n4_
       have HO433 := n5_
       have BK406 := n6_
       have BK407 := n7_
       have BK422 := n8_
       have HB := n9_
       clear n0_ n1_ n2_ n3_ n4_ n5_ n6_ n7_ n8_ n9_
       (try clear hb)
       (try clear hb2)
       (try clear hk)
       (try clear hi)
       refine hK.out _ _ ⟨(blk_cell BK422.out 0).trans rfl, (blk_cell BK422.out 1).trans rfl, (blk_cell BK422.out 2).trans rfl, (blk_cell BK422.out 3).trans rfl, (blk_cell BK422.out 4).trans rfl, (blk_cell BK407.out 0).trans rfl, (blk_cell BK407.out 1).trans rfl, (blk_cell BK407.out 2).trans rfl, (blk_cell BK407.out 3).trans rfl, (blk_cell BK407.out 4).trans rfl, (blk_cell BK406.out 0).trans rfl, (blk_cell BK406.out 1).trans rfl, (blk_cell BK406.out 2).trans rfl, (blk_cell BK406.out 3).trans rfl, (blk_cell BK406.out 4).trans rfl⟩ (fun hHeld => ?_)
       clear hK K
       refine norm_ (a' := ?_) ?_ ?_
       rotate_left
       ·show Act.put _ (some 23) _ = _
        simp only [Act.put, sB, i64_w, i32_w]
        rfl
       refine pure_ (i := 7) (N := some 24) (v := ?_) (a' := ?_) #[true, true, true, true, true, true, true, true, false, false, false, false, false, false, false, false, false, false, false, false, false, false, false, false, false] rfl rfl (any_of HT_.out (by kernel_rfl)) (fun _ _ _ h => h) (Or.inl ⟨by rfl, ?_⟩) ?_ ?_
       rotate_left
       ·intro w'
        go_simp
        with_reducible rfl
       rotate_left
       ·simp only [Act.put, sB, i64_w, i32_w]
        rfl
       refine pure_ (i := 8) (N := some 25) (v := ?_) (a' := ?_) #[true, true, true, true, true, true, true, true, true, false, false, false, false, false, false, false, false, false, false, false, false, false, false, false, false] rfl rfl (any_of HT_.out (by kernel_rfl)) (fun _ _ _ h => h) (Or.inl ⟨by rfl, ?_⟩) ?_ ?_
       rotate_left
       ·intro w'
        go_simp
        with_reducible rfl
       rotate_left
       ·simp only [Act.put, sB, i64_w, i32_w]
        rfl
       refine take_ (i := 9) (N := some 26) (v := ?_) (a' := ?_) #[true, true, true, true, true, true, true, true, true, true, false, false, false, false, false, false, false, false, false, false, false, false, false, false, false] rfl rfl (take_ofW HT_.out HW_.out (by kernel_rfl)) (fun _ _ _ h => h) (Or.inl ⟨by rfl, ?_⟩) hHeld ?_ ?_
       rotate_left
       ·rintro w' ⟨s0, s1, s2, s3, s4, s5, s6, s7, s8, s9, s10, s11, s12, s13, s14⟩
        go_simp
        with_reducible rfl
       rotate_left
       ·simp only [Act.put, sB, i64_w, i32_w]
        rfl
       refine take_ (i := 10) (N := some 27) (v := ?_) (a' := ?_) #[true, true, true, true, true, true, true, true, true, true, true, false, false, false, false, false, false, false, false, false, false, false, false, false, false] rfl rfl (take_ofW HT_.out HW_.out (by kernel_rfl)) (fun _ _ _ h => h) (Or.inl ⟨by rfl, ?_⟩) hHeld ?_ ?_
       rotate_left
       ·rintro w' ⟨s0, s1, s2, s3, s4, s5, s6, s7, s8, s9, s10, s11, s12, s13, s14⟩
        go_simp
        with_reducible rfl
       rotate_left
       ·simp only [Act.put, sB, i64_w, i32_w]
        rfl
       refine one_ (i := 11) (N := some 28) #[true, true, true, true, true, true, true, true, true, true, true, true, false, false, false, false, false, false, false, false, false, false, false, false, false] rfl rfl (one_of HT_.out (by kernel_rfl)) (by decide) (fun K hK => ?_)
       refine goes_ Try.func22 (by kernel_rfl) rfl #[.agg #[.int .i64 t411, .int .i64 t412, .slice Ao40 t413.length co40, .slice Ao41 t416.length co41, .slice Ao42 t419.length co42]] (by rfl) rfl rfl (by (try simp only [List.map_toArray, List.map_cons, List.map_nil]); first | done | rfl | (simp only [List.length_drop, List.length_take]; rfl)) ?_
       with_reducible refine (conf_Clone.calls kj2 t411 t412 _ _ t413 _ _ t416 _ _ t419 t436 t437 t438 t441 t444 _ ?side1 ?side2 ?side3 ?side4 ?side5 ?side6 A25.out).mono ?_
       (case side1 => repeat (first | exact (Kd.R_reads' HO415.out).2.2 | (with_reducible refine Kd.C_alloc ?_ _) | (with_reducible refine Kd.C_drewN ?_ _) | (with_reducible refine Kd.C_drew ?_)))
       (case side2 => exact (Kd.R_reads' HO415.out).2.1)
       (case side3 => repeat (first | exact (Kd.S_reads' HO418.out).2.2 | (with_reducible refine Kd.C_alloc ?_ _) | (with_reducible refine Kd.C_drewN ?_ _) | (with_reducible refine Kd.C_drew ?_)))
       (case side4 => exact (Kd.S_reads' HO418.out).2.1)
       (case side5 => repeat (first | exact (Kd.R_reads' HO421.out).2.2 | (with_reducible refine Kd.C_alloc ?_ _) | (with_reducible refine Kd.C_drewN ?_ _) | (with_reducible refine Kd.C_drew ?_)))
       (case side6 => exact (Kd.R_reads' HO421.out).2.1)
       rintro e w51 ⟨v439, v442, v445, rfl, ho0, ho1, ho2, hb⟩
       refine ⟨_, rfl, ?_⟩
       have n0_ := asd (Kd.R_elder' (by (with_reducible repeat (first | apply Kd.R_alloc | apply Kd.R_drewN | apply Kd.R_drew)); exact HO415.out) (Kd.R_base ho0) hb)
       have n1_ := asd (Kd.S_elder' (by (with_reducible repeat (first | apply Kd.S_alloc | apply Kd.S_drewN | apply Kd.S_drew)); exact HO418.out) (Kd.S_base ho1) hb)
       have n2_ := asd (Kd.R_elder' (by (with_reducible repeat (first | apply Kd.R_alloc | apply Kd.R_drewN | apply Kd.R_drew)); exact HO421.out) (Kd.R_base ho2) hb)
       have n3_ := asd (Kd.R_elder' (by (with_reducible repeat (first | apply Kd.R_alloc | apply Kd.R_drewN | apply Kd.R_drew)); exact HO427.out) (Kd.R_base ho0) hb)
       have n4_ := asd (Kd.S_elder' (by (with_reducible repeat (first | apply Kd.S_alloc | apply Kd.S_drewN | apply Kd.S_drew)); exact HO430.out) (Kd.S_base ho1) hb)
       have n5_ := asd (Kd.R_elder' (by (with_reducible repeat (first | apply Kd.R_alloc | apply Kd.R_drewN | apply Kd.R_drew)); exact HO433.out) (Kd.R_base ho2) hb)
       have n6_ := asd (Kd.R_lower (Kd.R_new' (Kd.R_new' ho0 (Kd.R_lt (by (with_reducible repeat (first | apply Kd.R_alloc | apply Kd.R_drewN | apply Kd.R_drew)); exact HO415.out))) (Kd.R_lt (by (with_reducible repeat (first | apply Kd.R_alloc | apply Kd.R_drewN | apply Kd.R_drew)); exact HO427.out))) (below_size (by repeat (first | (with_reducible first | exact HB.out | apply wa | apply wn | apply wd | refine ws ?_ GE406.out | refine ws ?_ GE407.out | refine ws ?_ GE422.out) | exact HB.out))))
       have n7_ := asd (Kd.S_lower (Kd.S_new' (Kd.S_new' ho1 (Kd.S_lt (by (with_reducible repeat (first | apply Kd.S_alloc | apply Kd.S_drewN | apply Kd.S_drew)); exact HO418.out))) (Kd.S_lt (by (with_reducible repeat (first | apply Kd.S_alloc | apply Kd.S_drewN | apply Kd.S_drew)); exact HO430.out))) (below_size (by repeat (first | (with_reducible first | exact HB.out | apply wa | apply wn | apply wd | refine ws ?_ GE406.out | refine ws ?_ GE407.out | refine ws ?_ GE422.out) | exact HB.out))))
       have n8_ := asd (Kd.R_lower (Kd.R_new' (Kd.R_new' ho2 (Kd.R_lt (by (with_reducible repeat (first | apply Kd.R_alloc | apply Kd.R_drewN | apply Kd.R_drew)); exact HO421.out))) (Kd.R_lt (by (with_reducible repeat (first | apply Kd.R_alloc | apply Kd.R_drewN | apply Kd.R_drew)); exact HO433.out))) (below_size (by repeat (first | (with_reducible first | exact HB.out | apply wa | apply wn | apply wd | refine ws ?_ GE406.out | refine ws ?_ GE407.out | refine ws ?_ GE422.out) | exact HB.out))))
       have n9_ := asd (blk_below (g := gb406) (o := .cells #[.int .i64 a0_0, .int .i64 a0_1, .slice A0_2 l0_2.length c0_2, .slice A0_3 l0_3.length c0_3, .slice A0_4 l0_4.length c0_4] 26 (0, 0)) (by (with_reducible repeat first | apply bn | apply bd | apply ba); exact BK406.out) hb)
       have n10_ := asd (blk_below (g := gb407) (o := .cells #[.int .i64 a1_0, .int .i64 a1_1, .slice A1_2 l1_2.length c1_2, .slice A1_3 l1_3.length c1_3, .slice A1_4 l1_4.length c1_4] 26 (0, 0)) (by (with_reducible repeat first | apply bn | apply bd | apply ba); exact BK407.out) hb)
       have n11_ := asd (blk_below (g := gb422) (o := .cells #[.int .i64 t411, .int .i64 t412, .slice Ao40 t413.length co40, .slice Ao41 t416.length co41, .slice Ao42 t419.length co42] 34 (0, 0)) (by (with_reducible repeat first | apply bn | apply bd | apply ba); exact BK422.out) hb)
       have n12_ := asd (below_step (by repeat (first | (with_reducible first | exact HB.out | apply wa | apply wn | apply wd | refine ws ?_ GE406.out | refine ws ?_ GE407.out | refine ws ?_ GE422.out) | exact HB.out)) hb)
       clear HO415
       clear HO418
       clear HO421
       clear HO427
       clear HO430
       clear HO433
       clear BK406
       clear BK407
       clear BK422
       clear HB
       have HO415 := n0_
       have HO418 := n1_
       have HO421 := n2_
       have HO427 := n3_
       have HO430 := n4_
       have HO433 := n5_
       have HO440 := n6_
       have HO443 := n7_
       have HO446 := n8_
       have BK406 := n9_
       have BK407 := n10_
       have BK422 := n11_
       have HB := n12_
       clear n0_ n1_ n2_ n3_ n4_ n5_ n6_ n7_ n8_ n9_ n10_ n11_ n12_
       (try clear hb)
       (try clear hb2)
       (try clear hk)
       (try clear hi)
       (try clear ho0)
       (try clear ho1)
       (try clear ho2)
       obtain ⟨Ao52, co52, eo52⟩ := Kd.R_slice HO440.out
       (first | subst eo52 | (injection eo52 with f1_ f2_ f3_; have f4_ := f1_.symm; have f5_ := f3_.symm; clear f1_ f2_ f3_; subst f4_; subst f5_))
       obtain ⟨Ao53, co53, eo53⟩ := Kd.S_slice HO443.out
       (first | subst eo53 | (injection eo53 with f1_ f2_ f3_; have f4_ := f1_.symm; have f5_ := f3_.symm; clear f1_ f2_ f3_; subst f4_; subst f5_))
       obtain ⟨Ao54, co54, eo54⟩ := Kd.R_slice HO446.out
       (first | subst eo54 | (injection eo54 with f1_ f2_ f3_; have f4_ := f1_.symm; have f5_ := f3_.symm; clear f1_ f2_ f3_; subst f4_; subst f5_))
       refine hK.out _ _ ⟨(blk_cell BK422.out 0).trans rfl, (blk_cell BK422.out 1).trans rfl, (blk_cell BK422.out 2).trans rfl, (blk_cell BK422.out 3).trans rfl, (blk_cell BK422.out 4).trans rfl, (blk_cell BK407.out 0).trans rfl, (blk_cell BK407.out 1).trans rfl, (blk_cell BK407.out 2).trans rfl, (blk_cell BK407.out 3).trans rfl, (blk_cell BK407.out 4).trans rfl, (blk_cell BK406.out 0).trans rfl, (blk_cell BK406.out 1).trans rfl, (blk_cell BK406.out 2).trans rfl, (blk_cell BK406.out 3).trans rfl, (blk_cell BK406.out 4).trans rfl⟩ (fun hHeld => ?_)
       clear hK K
       refine norm_ (a' := ?_) ?_ ?_
       rotate_left
       ·show Act.put _ (some 28) _ = _
        simp only [Act.put, sB, i64_w, i32_w]
        rfl
       refine one_ (i := 12) (N := some 29) #[true, true, true, true, true, true, true, true, true, true, true, true, true, false, false, false, false, false, false, false, false, false, false, false, false] rfl rfl (one_of HT_.out (by kernel_rfl)) (by decide) (fun K hK => ?_)
       refine goes_ Try.func34 (by kernel_rfl) rfl #[.agg #[.int .i64 t411, .int .i64 t412, .slice Ao40 t413.length co40, .slice Ao41 t416.length co41, .slice Ao42 t419.length co42], .agg #[.int .i64 t436, .int .i64 t437, .slice Ao52 t438.length co52, .slice Ao53 t441.length co53, .slice Ao54 t444.length co54]] (by rfl) rfl rfl (by (try simp only [List.map_toArray, List.map_cons, List.map_nil]); first | done | rfl | (simp only [List.length_drop, List.length_take]; rfl)) ?_
       with_reducible refine (conf_Same.calls kj2 t411 t412 _ _ t413 _ _ t416 _ _ t419 t436 t437 _ _ t438 _ _ t441 _ _ t444 true _ ?side1 ?side2 ?side3 ?side4 ?side5 ?side6 ?side7 ?side8 ?side9 ?side10 ?side11 ?side12 A26.out).mono ?_
       (case side1 => repeat (first | exact (Kd.R_reads' HO415.out).2.2 | (with_reducible refine Kd.C_alloc ?_ _) | (with_reducible refine Kd.C_drewN ?_ _) | (with_reducible refine Kd.C_drew ?_)))
       (case side2 => exact (Kd.R_reads' HO415.out).2.1)
       (case side3 => repeat (first | exact (Kd.S_reads' HO418.out).2.2 | (with_reducible refine Kd.C_alloc ?_ _) | (with_reducible refine Kd.C_drewN ?_ _) | (with_reducible refine Kd.C_drew ?_)))
       (case side4 => exact (Kd.S_reads' HO418.out).2.1)
       (case side5 => repeat (first | exact (Kd.R_reads' HO421.out).2.2 | (with_reducible refine Kd.C_alloc ?_ _) | (with_reducible refine Kd.C_drewN ?_ _) | (with_reducible refine Kd.C_drew ?_)))
       (case side6 => exact (Kd.R_reads' HO421.out).2.1)
       (case side7 => repeat (first | exact (Kd.R_reads' HO440.out).2.2 | (with_reducible refine Kd.C_alloc ?_ _) | (with_reducible refine Kd.C_drewN ?_ _) | (with_reducible refine Kd.C_drew ?_)))
       (case side8 => exact (Kd.R_reads' HO440.out).2.1)
       (case side9 => repeat (first | exact (Kd.S_reads' HO443.out).2.2 | (with_reducible refine Kd.C_alloc ?_ _) | (with_reducible refine Kd.C_drewN ?_ _) | (with_reducible refine Kd.C_drew ?_)))
       (case side10 => exact (Kd.S_reads' HO443.out).2.1)
       (case side11 => repeat (first | exact (Kd.R_reads' HO446.out).2.2 | (with_reducible refine Kd.C_alloc ?_ _) | (with_reducible refine Kd.C_drewN ?_ _) | (with_reducible refine Kd.C_drew ?_)))
       (case side12 => exact (Kd.R_reads' HO446.out).2.1)
       rintro e w55 ⟨rfl, hb⟩
       refine ⟨_, rfl, ?_⟩
       have n0_ := asd (Kd.R_below (by (with_reducible repeat (first | apply Kd.R_alloc | apply Kd.R_drewN | apply Kd.R_drew)); exact HO415.out) hb)
       have n1_ := asd (Kd.S_below (by (with_reducible repeat (first | apply Kd.S_alloc | apply Kd.S_drewN | apply Kd.S_drew)); exact HO418.out) hb)
       have n2_ := asd (Kd.R_below (by (with_reducible repeat (first | apply Kd.R_alloc | apply Kd.R_drewN | apply Kd.R_drew)); exact HO421.out) hb)
       have n3_ := asd (Kd.R_below (by (with_reducible repeat (first | apply Kd.R_alloc | apply Kd.R_drewN | apply Kd.R_drew)); exact HO427.out) hb)
       have n4_ := asd (Kd.S_below (by (with_reducible repeat (first | apply Kd.S_alloc | apply Kd.S_drewN | apply Kd.S_drew)); exact HO430.out) hb)
       have n5_ := asd (Kd.R_below (by (with_reducible repeat (first | apply Kd.R_alloc | apply Kd.R_drewN | apply Kd.R_drew)); exact HO433.out) hb)
       have n6_ := asd (Kd.R_below (by (with_reducible repeat (first | apply Kd.R_alloc | apply Kd.R_drewN | apply Kd.R_drew)); exact HO440.out) hb)
       have n7_ := asd (Kd.S_below (by (with_reducible repeat (first | apply Kd.S_alloc | apply Kd.S_drewN | apply Kd.S_drew)); exact HO443.out) hb)
       have n8_ := asd (Kd.R_below (by (with_reducible repeat (first | apply Kd.R_alloc | apply Kd.R_drewN | apply Kd.R_drew)); exact HO446.out) hb)
       have n9_ := asd (blk_below (g := gb406) (o := .cells #[.int .i64 a0_0, .int .i64 a0_1, .slice A0_2 l0_2.length c0_2, .slice A0_3 l0_3.length c0_3, .slice A0_4 l0_4.length c0_4] 26 (0, 0)) (by (with_reducible repeat first | apply bn | apply bd | apply ba); exact BK406.out) hb)
       have n10_ := asd (blk_below (g := gb407) (o := .cells #[.int .i64 a1_0, .int .i64 a1_1, .slice A1_2 l1_2.length c1_2, .slice A1_3 l1_3.length c1_3, .slice A1_4 l1_4.length c1_4] 26 (0, 0)) (by (with_reducible repeat first | apply bn | apply bd | apply ba); exact BK407.out) hb)
       have n11_ := asd (blk_below (g := gb422) (o := .cells #[.int .i64 t411, .int .i64 t412, .slice Ao40 t413.length co40, .slice Ao41 t416.length co41, .slice Ao42 t419.length co42] 34 (0, 0)) (by (with_reducible repeat first | apply bn | apply bd | apply ba); exact BK422.out) hb)
       have n12_ := asd (below_step (by repeat (first | (with_reducible first | exact HB.out | apply wa | apply wn | apply wd | refine ws ?_ GE406.out | refine ws ?_ GE407.out | refine ws ?_ GE422.out) | exact HB.out)) hb)
       clear HO415
       clear HO418
       clear HO421
       clear HO427
       clear HO430
       clear HO433
       clear HO440
       clear HO443
       clear HO446
       clear BK406
       clear BK407
       clear BK422
       clear HB
       have HO415 := n0_
       have HO418 := n1_
       have HO421 := n2_
       have HO427 := n3_
       have HO430 := n4_
       have HO433 := n5_
       have HO440 := n6_
       have HO443 := n7_
       have HO446 := n8_
       have BK406 := n9_
       have BK407 := n10_
       have BK422 := n11_
       have HB := n12_
       clear n0_ n1_ n2_ n3_ n4_ n5_ n6_ n7_ n8_ n9_ n10_ n11_ n12_
       (try clear hb)
       (try clear hb2)
       (try clear hk)
       (try clear hi)
       refine hK.out _ _ ⟨(blk_cell BK422.out 0).trans rfl, (blk_cell BK422.out 1).trans rfl, (blk_cell BK422.out 2).trans rfl, (blk_cell BK422.out 3).trans rfl, (blk_cell BK422.out 4).trans rfl, (blk_cell BK407.out 0).trans rfl, (blk_cell BK407.out 1).trans rfl, (blk_cell BK407.out 2).trans rfl, (blk_cell BK407.out 3).trans rfl, (blk_cell BK407.out 4).trans rfl, (blk_cell BK406.out 0).trans rfl, (blk_cell BK406.out 1).trans rfl, (blk_cell BK406.out 2).trans rfl, (blk_cell BK406.out 3).trans rfl, (blk_cell BK406.out 4).trans rfl⟩ (fun hHeld => ?_)
       clear hK K
       refine norm_ (a' := ?_) ?_ ?_
       rotate_left
       ·show Act.put _ (some 29) _ = _
        simp only [Act.put, sB, i64_w, i32_w]
        rfl
       refine pure_ (i := 13) (N := some 30) (v := ?_) (a' := ?_) #[true, true, true, true, true, true, true, true, true, true, true, true, true, true, false, false, false, false, false, false, false, false, false, false, false] rfl rfl (any_of HT_.out (by kernel_rfl)) (fun _ _ _ h => h) (Or.inl ⟨by rfl, ?_⟩) ?_ ?_
       rotate_left
       ·intro w'
        go_simp
        with_reducible rfl
       rotate_left
       ·simp only [Act.put, sB, i64_w, i32_w]
        rfl
       refine pure_ (i := 14) (N := some 31) (v := ?_) (a' := ?_) #[true, true, true, true, true, true, true, true, true, true, true, true, true, true, true, false, false, false, false, false, false, false, false, false, false] rfl rfl (any_of HT_.out (by kernel_rfl)) (fun _ _ _ h => h) (Or.inl ⟨by rfl, ?_⟩) ?_ ?_
       rotate_left
       ·intro w'
        go_simp
        with_reducible rfl
       rotate_left
       ·simp only [Act.put, sB, i64_w, i32_w]
        rfl
       refine take_ (i := 15) (N := some 32) (v := ?_) (a' := ?_) #[true, true, true, true, true, true, true, true, true, true, true, true, true, true, true, true, false, false, false, false, false, false, false, false, false] rfl rfl (take_ofW HT_.out HW_.out (by kernel_rfl)) (fun _ _ _ h => h) (Or.inl ⟨by rfl, ?_⟩) hHeld ?_ ?_
       rotate_left
       ·rintro w' ⟨s0, s1, s2, s3, s4, s5, s6, s7, s8, s9, s10, s11, s12, s13, s14⟩
        go_simp
        with_reducible rfl
       rotate_left
       ·simp only [Act.put, sB, i64_w, i32_w]
        rfl
       refine take_ (i := 18) (N := some 35) (v := ?_) (a' := ?_) #[true, true, true, true, true, true, true, true, true, true, true, true, true, true, true, true, false, false, true, false, false, false, false, false, false] rfl rfl (take_ofW HT_.out HW_.out (by kernel_rfl)) (fun _ _ _ h => h) (Or.inl ⟨by rfl, ?_⟩) hHeld ?_ ?_
       rotate_left
       ·rintro w' ⟨s0, s1, s2, s3, s4, s5, s6, s7, s8, s9, s10, s11, s12, s13, s14⟩
        go_simp
        with_reducible rfl
       rotate_left
       ·simp only [Act.put, sB, i64_w, i32_w]
        rfl
       refine one_ (i := 16) (N := some 33) #[true, true, true, true, true, true, true, true, true, true, true, true, true, true, true, true, true, false, true, false, false, false, false, false, false] rfl rfl (one_of HT_.out (by kernel_rfl)) (by decide) (fun K hK => ?_)
       refine goes_ Try.func22 (by kernel_rfl) rfl #[.agg #[.int .i64 t411, .int .i64 t412, .slice Ao40 t413.length co40, .slice Ao41 t416.length co41, .slice Ao42 t419.length co42]] (by rfl) rfl rfl (by (try simp only [List.map_toArray, List.map_cons, List.map_nil]); first | done | rfl | (simp only [List.length_drop, List.length_take]; rfl)) ?_
       with_reducible refine (conf_Clone.calls kj2 t411 t412 _ _ t413 _ _ t416 _ _ t419 t448 t449 t450 t453 t456 _ ?side1 ?side2 ?side3 ?side4 ?side5 ?side6 A28.out).mono ?_
       (case side1 => repeat (first | exact (Kd.R_reads' HO415.out).2.2 | (with_reducible refine Kd.C_alloc ?_ _) | (with_reducible refine Kd.C_drewN ?_ _) | (with_reducible refine Kd.C_drew ?_)))
       (case side2 => exact (Kd.R_reads' HO415.out).2.1)
       (case side3 => repeat (first | exact (Kd.S_reads' HO418.out).2.2 | (with_reducible refine Kd.C_alloc ?_ _) | (with_reducible refine Kd.C_drewN ?_ _) | (with_reducible refine Kd.C_drew ?_)))
       (case side4 => exact (Kd.S_reads' HO418.out).2.1)
       (case side5 => repeat (first | exact (Kd.R_reads' HO421.out).2.2 | (with_reducible refine Kd.C_alloc ?_ _) | (with_reducible refine Kd.C_drewN ?_ _) | (with_reducible refine Kd.C_drew ?_)))
       (case side6 => exact (Kd.R_reads' HO421.out).2.1)
       rintro e w56 ⟨v451, v454, v457, rfl, ho0, ho1, ho2, hb⟩
       refine ⟨_, rfl, ?_⟩
       have n0_ := asd (Kd.R_elder' (by (with_reducible repeat (first | apply Kd.R_alloc | apply Kd.R_drewN | apply Kd.R_drew)); exact HO415.out) (Kd.R_base ho0) hb)
       have n1_ := asd (Kd.S_elder' (by (with_reducible repeat (first | apply Kd.S_alloc | apply Kd.S_drewN | apply Kd.S_drew)); exact HO418.out) (Kd.S_base ho1) hb)
       have n2_ := asd (Kd.R_elder' (by (with_reducible repeat (first | apply Kd.R_alloc | apply Kd.R_drewN | apply Kd.R_drew)); exact HO421.out) (Kd.R_base ho2) hb)
       have n3_ := asd (Kd.R_elder' (by (with_reducible repeat (first | apply Kd.R_alloc | apply Kd.R_drewN | apply Kd.R_drew)); exact HO427.out) (Kd.R_base ho0) hb)
       have n4_ := asd (Kd.S_elder' (by (with_reducible repeat (first | apply Kd.S_alloc | apply Kd.S_drewN | apply Kd.S_drew)); exact HO430.out) (Kd.S_base ho1) hb)
       have n5_ := asd (Kd.R_elder' (by (with_reducible repeat (first | apply Kd.R_alloc | apply Kd.R_drewN | apply Kd.R_drew)); exact HO433.out) (Kd.R_base ho2) hb)
       have n6_ := asd (Kd.R_elder' (by (with_reducible repeat (first | apply Kd.R_alloc | apply Kd.R_drewN | apply Kd.R_drew)); exact HO440.out) (Kd.R_base ho0) hb)
       have n7_ := asd (Kd.S_elder' (by (with_reducible repeat (first | apply Kd.S_alloc | apply Kd.S_drewN | apply Kd.S_drew)); exact HO443.out) (Kd.S_base ho1) hb)
       have n8_ := asd (Kd.R_elder' (by (with_reducible repeat (first | apply Kd.R_alloc | apply Kd.R_drewN | apply Kd.R_drew)); exact HO446.out) (Kd.R_base ho2) hb)
       have n9_ := asd (Kd.R_lower (Kd.R_new' (Kd.R_new' (Kd.R_new' ho0 (Kd.R_lt (by (with_reducible repeat (first | apply Kd.R_alloc | apply Kd.R_drewN | apply Kd.R_drew)); exact HO415.out))) (Kd.R_lt (by (with_reducible repeat (first | apply Kd.R_alloc | apply Kd.R_drewN | apply Kd.R_drew)); exact HO427.out))) (Kd.R_lt (by (with_reducible repeat (first | apply Kd.R_alloc | apply Kd.R_drewN | apply Kd.R_drew)); exact HO440.out))) (below_size (by repeat (first | (with_reducible first | exact HB.out | apply wa | apply wn | apply wd | refine ws ?_ GE406.out | refine ws ?_ GE407.out | refine ws ?_ GE422.out) | exact HB.out))))
       have n10_ := asd (Kd.S_lower (Kd.S_new' (Kd.S_new' (Kd.S_new' ho1 (Kd.S_lt (by (with_reducible repeat (first | apply Kd.S_alloc | apply Kd.S_drewN | apply Kd.S_drew)); exact HO418.out))) (Kd.S_lt (by (with_reducible repeat (first | apply Kd.S_alloc | apply Kd.S_drewN | apply Kd.S_drew)); exact HO430.out))) (Kd.S_lt (by (with_reducible repeat (first | apply Kd.S_alloc | apply Kd.S_drewN | apply Kd.S_drew)); exact HO443.out))) (below_size (by repeat (first | (with_reducible first | exact HB.out | apply wa | apply wn | apply wd | refine ws ?_ GE406.out | refine ws ?_ GE407.out | refine ws ?_ GE422.out) | exact HB.out))))
       have n11_ := asd (Kd.R_lower (Kd.R_new' (Kd.R_new' (Kd.R_new' ho2 (Kd.R_lt (by (with_reducible repeat (first | apply Kd.R_alloc | apply Kd.R_drewN | apply Kd.R_drew)); exact HO421.out))) (Kd.R_lt (by (with_reducible repeat (first | apply Kd.R_alloc | apply Kd.R_drewN | apply Kd.R_drew)); exact HO433.out))) (Kd.R_lt (by (with_reducible repeat (first | apply Kd.R_alloc | apply Kd.R_drewN | apply Kd.R_drew)); exact HO446.out))) (below_size (by repeat (first | (with_reducible first | exact HB.out | apply wa | apply wn | apply wd | refine ws ?_ GE406.out | refine ws ?_ GE407.out | refine ws ?_ GE422.out) | exact HB.out))))
       have n12_ := asd (blk_below (g := gb406) (o := .cells #[.int .i64 a0_0, .int .i64 a0_1, .slice A0_2 l0_2.length c0_2, .slice A0_3 l0_3.length c0_3, .slice A0_4 l0_4.length c0_4] 26 (0, 0)) (by (with_reducible repeat first | apply bn | apply bd | apply ba); exact BK406.out) hb)
       have n13_ := asd (blk_below (g := gb407) (o := .cells #[.int .i64 a1_0, .int .i64 a1_1, .slice A1_2 l1_2.length c1_2, .slice A1_3 l1_3.length c1_3, .slice A1_4 l1_4.length c1_4] 26 (0, 0)) (by (with_reducible repeat first | apply bn | apply bd | apply ba); exact BK407.out) hb)
       have n14_ := asd (blk_below (g := gb422) (o := .cells #[.int .i64 t411, .int .i64 t412, .slice Ao40 t413.length co40, .slice Ao41 t416.length co41, .slice Ao42 t419.length co42] 34 (0, 0)) (by (with_reducible repeat first | apply bn | apply bd | apply ba); exact BK422.out) hb)
       have n15_ := asd (below_step (by repeat (first | (with_reducible first | exact HB.out | apply wa | apply wn | apply wd | refine ws ?_ GE406.out | refine ws ?_ GE407.out | refine ws ?_ GE422.out) | exact HB.out)) hb)
       clear HO415
       clear HO418
       clear HO421
       clear HO427
       clear HO430
       clear HO433
       clear HO440
       clear HO443
       clear HO446
       clear BK406
       clear BK407
       clear BK422
       clear HB
       have HO415 := n0_
       have HO418 := n1_
       have HO421 := n2_
       have HO427 := n3_
       have HO430 := n4_
       have HO433 := n5_
       have HO440 := n6_
       have HO443 := n7_
       have HO446 := n8_
       have HO452 := n9_
       have HO455 := n10_
       have HO458 := n11_
       have BK406 := n12_
       have BK407 := n13_
       have BK422 := n14_
       have HB := n15_
       clear n0_ n1_ n2_ n3_ n4_ n5_ n6_ n7_ n8_ n9_ n10_ n11_ n12_ n13_ n14_ n15_
       (try clear hb)
       (try clear hb2)
       (try clear hk)
       (try clear hi)
       (try clear ho0)
       (try clear ho1)
       (try clear ho2)
       obtain ⟨Ao57, co57, eo57⟩ := Kd.R_slice HO452.out
       (first | subst eo57 | (injection eo57 with f1_ f2_ f3_; have f4_ := f1_.symm; have f5_ := f3_.symm; clear f1_ f2_ f3_; subst f4_; subst f5_))
       obtain ⟨Ao58, co58, eo58⟩ := Kd.S_slice HO455.out
       (first | subst eo58 | (injection eo58 with f1_ f2_ f3_; have f4_ := f1_.symm; have f5_ := f3_.symm; clear f1_ f2_ f3_; subst f4_; subst f5_))
       obtain ⟨Ao59, co59, eo59⟩ := Kd.R_slice HO458.out
       (first | subst eo59 | (injection eo59 with f1_ f2_ f3_; have f4_ := f1_.symm; have f5_ := f3_.symm; clear f1_ f2_ f3_; subst f4_; subst f5_))
       refine hK.out _ _ ⟨(blk_cell BK422.out 0).trans rfl, (blk_cell BK422.out 1).trans rfl, (blk_cell BK422.out 2).trans rfl, (blk_cell BK422.out 3).trans rfl, (blk_cell BK422.out 4).trans rfl, (blk_cell BK407.out 0).trans rfl, (blk_cell BK407.out 1).trans rfl, (blk_cell BK407.out 2).trans rfl, (blk_cell BK407.out 3).trans rfl, (blk_cell BK407.out 4).trans rfl, (blk_cell BK406.out 0).trans rfl, (blk_cell BK406.out 1).trans rfl, (blk_cell BK406.out 2).trans rfl, (blk_cell BK406.out 3).trans rfl, (blk_cell BK406.out 4).trans rfl⟩ (fun hHeld => ?_)
       clear hK K
       refine norm_ (a' := ?_) ?_ ?_
       rotate_left
       ·show Act.put _ (some 33) _ = _
        simp only [Act.put, sB, i64_w, i32_w]
        rfl
       refine one_ (i := 17) (N := some 34) #[true, true, true, true, true, true, true, true, true, true, true, true, true, true, true, true, true, true, true, false, false, false, false, false, false] rfl rfl (one_of HT_.out (by kernel_rfl)) (by decide) (fun K hK => ?_)
       refine goes_ Try.func24 (by kernel_rfl) rfl #[.agg #[.int .i64 t448, .int .i64 t449, .slice Ao57 t450.length co57, .slice Ao58 t453.length co58, .slice Ao59 t456.length co59]] (by rfl) rfl rfl (by (try simp only [List.map_toArray, List.map_cons, List.map_nil]); first | done | rfl | (simp only [List.length_drop, List.length_take]; rfl)) ?_
       with_reducible refine (parcloselaw03_Ref.calls kj2 t448 t449 _ _ t450 _ _ t453 _ _ t456 t459 t460 t461 t464 t467 _ ?side1 ?side2 ?side3 ?side4 ?side5 ?side6 A29.out).mono ?_
       (case side1 => repeat (first | exact (Kd.R_reads' HO452.out).2.2 | (with_reducible refine Kd.C_alloc ?_ _) | (with_reducible refine Kd.C_drewN ?_ _) | (with_reducible refine Kd.C_drew ?_)))
       (case side2 => exact (Kd.R_reads' HO452.out).2.1)
       (case side3 => repeat (first | exact (Kd.S_reads' HO455.out).2.2 | (with_reducible refine Kd.C_alloc ?_ _) | (with_reducible refine Kd.C_drewN ?_ _) | (with_reducible refine Kd.C_drew ?_)))
       (case side4 => exact (Kd.S_reads' HO455.out).2.1)
       (case side5 => repeat (first | exact (Kd.R_reads' HO458.out).2.2 | (with_reducible refine Kd.C_alloc ?_ _) | (with_reducible refine Kd.C_drewN ?_ _) | (with_reducible refine Kd.C_drew ?_)))
       (case side6 => exact (Kd.R_reads' HO458.out).2.1)
       rintro e w60 ⟨v462, v465, v468, rfl, ho0, ho1, ho2, hb⟩
       refine ⟨_, rfl, ?_⟩
       have n0_ := asd (Kd.R_below (by (with_reducible repeat (first | apply Kd.R_alloc | apply Kd.R_drewN | apply Kd.R_drew)); exact HO415.out) hb)
       have n1_ := asd (Kd.S_below (by (with_reducible repeat (first | apply Kd.S_alloc | apply Kd.S_drewN | apply Kd.S_drew)); exact HO418.out) hb)
       have n2_ := asd (Kd.R_below (by (with_reducible repeat (first | apply Kd.R_alloc | apply Kd.R_drewN | apply Kd.R_drew)); exact HO421.out) hb)
       have n3_ := asd (Kd.R_below (by (with_reducible repeat (first | apply Kd.R_alloc | apply Kd.R_drewN | apply Kd.R_drew)); exact HO427.out) hb)
       have n4_ := asd (Kd.S_below (by (with_reducible repeat (first | apply Kd.S_alloc | apply Kd.S_drewN | apply Kd.S_drew)); exact HO430.out) hb)
       have n5_ := asd (Kd.R_below (by (with_reducible repeat (first | apply Kd.R_alloc | apply Kd.R_drewN | apply Kd.R_drew)); exact HO433.out) hb)
       have n6_ := asd (Kd.R_below (by (with_reducible repeat (first | apply Kd.R_alloc | apply Kd.R_drewN | apply Kd.R_drew)); exact HO440.out) hb)
       have n7_ := asd (Kd.S_below (by (with_reducible repeat (first | apply Kd.S_alloc | apply Kd.S_drewN | apply Kd.S_drew)); exact HO443.out) hb)
       have n8_ := asd (Kd.R_below (by (with_reducible repeat (first | apply Kd.R_alloc | apply Kd.R_drewN | apply Kd.R_drew)); exact HO446.out) hb)
       have n9_ := asd (Kd.R_below (by (with_reducible repeat (first | apply Kd.R_alloc | apply Kd.R_drewN | apply Kd.R_drew)); exact HO452.out) hb)
       have n10_ := asd (Kd.S_below (by (with_reducible repeat (first | apply Kd.S_alloc | apply Kd.S_drewN | apply Kd.S_drew)); exact HO455.out) hb)
       have n11_ := asd (Kd.R_below (by (with_reducible repeat (first | apply Kd.R_alloc | apply Kd.R_drewN | apply Kd.R_drew)); exact HO458.out) hb)
       have n12_ := asd (Kd.R_lower ho0 (below_size (by repeat (first | (with_reducible first | exact HB.out | apply wa | apply wn | apply wd | refine ws ?_ GE406.out | refine ws ?_ GE407.out | refine ws ?_ GE422.out) | exact HB.out))))
       have n13_ := asd (Kd.S_lower ho1 (below_size (by repeat (first | (with_reducible first | exact HB.out | apply wa | apply wn | apply wd | refine ws ?_ GE406.out | refine ws ?_ GE407.out | refine ws ?_ GE422.out) | exact HB.out))))
       have n14_ := asd (Kd.R_lower ho2 (below_size (by repeat (first | (with_reducible first | exact HB.out | apply wa | apply wn | apply wd | refine ws ?_ GE406.out | refine ws ?_ GE407.out | refine ws ?_ GE422.out) | exact HB.out))))
       have n15_ := asd (blk_below (g := gb406) (o := .cells #[.int .i64 a0_0, .int .i64 a0_1, .slice A0_2 l0_2.length c0_2, .slice A0_3 l0_3.length c0_3, .slice A0_4 l0_4.length c0_4] 26 (0, 0)) (by (with_reducible repeat first | apply bn | apply bd | apply ba); exact BK406.out) hb)
       have n16_ := asd (blk_below (g := gb407) (o := .cells #[.int .i64 a1_0, .int .i64 a1_1, .slice A1_2 l1_2.length c1_2, .slice A1_3 l1_3.length c1_3, .slice A1_4 l1_4.length c1_4] 26 (0, 0)) (by (with_reducible repeat first | apply bn | apply bd | apply ba); exact BK407.out) hb)
       have n17_ := asd (blk_below (g := gb422) (o := .cells #[.int .i64 t411, .int .i64 t412, .slice Ao40 t413.length co40, .slice Ao41 t416.length co41, .slice Ao42 t419.length co42] 34 (0, 0)) (by (with_reducible repeat first | apply bn | apply bd | apply ba); exact BK422.out) hb)
       have n18_ := asd (below_step (by repeat (first | (with_reducible first | exact HB.out | apply wa | apply wn | apply wd | refine ws ?_ GE406.out | refine ws ?_ GE407.out | refine ws ?_ GE422.out) | exact HB.out)) hb)
       clear HO415
       clear HO418
       clear HO421
       clear HO427
       clear HO430
       clear HO433
       clear HO440
       clear HO443
       clear HO446
       clear HO452
       clear HO455
       clear HO458
       clear BK406
       clear BK407
       clear BK422
       clear HB
       have HO415 := n0_
       have HO418 := n1_
       have HO421 := n2_
       have HO427 := n3_
       have HO430 := n4_
       have HO433 := n5_
       have HO440 := n6_
       have HO443 := n7_
       have HO446 := n8_
       have HO452 := n9_
       have HO455 := n10_
       have HO458 := n11_
       have HO463 := n12_
       have HO466 := n13_
       have HO469 := n14_
       have BK406 := n15_
       have BK407 := n16_
       have BK422 := n17_
       have HB := n18_
       clear n0_ n1_ n2_ n3_ n4_ n5_ n6_ n7_ n8_ n9_ n10_ n11_ n12_ n13_ n14_ n15_ n16_ n17_ n18_
       (try clear hb)
       (try clear hb2)
       (try clear hk)
       (try clear hi)
       (try clear ho0)
       (try clear ho1)
       (try clear ho2)
       obtain ⟨Ao61, co61, eo61⟩ := Kd.R_slice HO463.out
       (first | subst eo61 | (injection eo61 with f1_ f2_ f3_; have f4_ := f1_.symm; have f5_ := f3_.symm; clear f1_ f2_ f3_; subst f4_; subst f5_))
       obtain ⟨Ao62, co62, eo62⟩ := Kd.S_slice HO466.out
       (first | subst eo62 | (injection eo62 with f1_ f2_ f3_; have f4_ := f1_.symm; have f5_ := f3_.symm; clear f1_ f2_ f3_; subst f4_; subst f5_))
       obtain ⟨Ao63, co63, eo63⟩ := Kd.R_slice HO469.out
       (first | subst eo63 | (injection eo63 with f1_ f2_ f3_; have f4_ := f1_.symm; have f5_ := f3_.symm; clear f1_ f2_ f3_; subst f4_; subst f5_))
       refine hK.out _ _ ⟨(blk_cell BK422.out 0).trans rfl, (blk_cell BK422.out 1).trans rfl, (blk_cell BK422.out 2).trans rfl, (blk_cell BK422.out 3).trans rfl, (blk_cell BK422.out 4).trans rfl, (blk_cell BK407.out 0).trans rfl, (blk_cell BK407.out 1).trans rfl, (blk_cell BK407.out 2).trans rfl, (blk_cell BK407.out 3).trans rfl, (blk_cell BK407.out 4).trans rfl, (blk_cell BK406.out 0).trans rfl, (blk_cell BK406.out 1).trans rfl, (blk_cell BK406.out 2).trans rfl, (blk_cell BK406.out 3).trans rfl, (blk_cell BK406.out 4).trans rfl⟩ (fun hHeld => ?_)
       clear hK K
       refine norm_ (a' := ?_) ?_ ?_
       rotate_left
       ·show Act.put _ (some 34) _ = _
        simp only [Act.put, sB, i64_w, i32_w]
        rfl
       refine one_ (i := 19) (N := some 36) #[true, true, true, true, true, true, true, true, true, true, true, true, true, true, true, true, true, true, true, true, false, false, false, false, false] rfl rfl (one_of HT_.out (by kernel_rfl)) (by decide) (fun K hK => ?_)
       refine goes_ Try.func23 (by kernel_rfl) rfl #[.agg #[.int .i64 t459, .int .i64 t460, .slice Ao61 t461.length co61, .slice Ao62 t464.length co62, .slice Ao63 t467.length co63], .agg #[.int .i64 a0_0, .int .i64 a0_1, .slice A0_2 l0_2.length c0_2, .slice A0_3 l0_3.length c0_3, .slice A0_4 l0_4.length c0_4]] (by rfl) rfl rfl (by (try simp only [List.map_toArray, List.map_cons, List.map_nil]); first | done | rfl | (simp only [List.length_drop, List.length_take]; rfl)) ?_
       with_reducible refine (parcloseref03_Same.calls kj2 t459 t460 _ _ t461 _ _ t464 _ _ t467 a0_0 a0_1 _ _ l0_2 _ _ l0_3 _ _ l0_4 true _ ?side1 ?side2 ?side3 ?side4 ?side5 ?side6 ?side7 ?side8 ?side9 ?side10 ?side11 ?side12 A30.out).mono ?_
       (case side1 => repeat (first | exact (Kd.R_reads' HO463.out).2.2 | (with_reducible refine Kd.C_alloc ?_ _) | (with_reducible refine Kd.C_drewN ?_ _) | (with_reducible refine Kd.C_drew ?_)))
       (case side2 => exact (Kd.R_reads' HO463.out).2.1)
       (case side3 => repeat (first | exact (Kd.S_reads' HO466.out).2.2 | (with_reducible refine Kd.C_alloc ?_ _) | (with_reducible refine Kd.C_drewN ?_ _) | (with_reducible refine Kd.C_drew ?_)))
       (case side4 => exact (Kd.S_reads' HO466.out).2.1)
       (case side5 => repeat (first | exact (Kd.R_reads' HO469.out).2.2 | (with_reducible refine Kd.C_alloc ?_ _) | (with_reducible refine Kd.C_drewN ?_ _) | (with_reducible refine Kd.C_drew ?_)))
       (case side6 => exact (Kd.R_reads' HO469.out).2.1)
       (case side7 => repeat (first | exact (Kd.C_below HR0_2.out HB.out) | (with_reducible refine Kd.C_alloc ?_ _) | (with_reducible refine Kd.C_drewN ?_ _) | (with_reducible refine Kd.C_drew ?_)))
       (case side8 => exact HC0_2.out)
       (case side9 => repeat (first | exact (Kd.C_below HR0_3.out HB.out) | (with_reducible refine Kd.C_alloc ?_ _) | (with_reducible refine Kd.C_drewN ?_ _) | (with_reducible refine Kd.C_drew ?_)))
       (case side10 => exact HC0_3.out)
       (case side11 => repeat (first | exact (Kd.C_below HR0_4.out HB.out) | (with_reducible refine Kd.C_alloc ?_ _) | (with_reducible refine Kd.C_drewN ?_ _) | (with_reducible refine Kd.C_drew ?_)))
       (case side12 => exact HC0_4.out)
       rintro e w64 ⟨rfl, hb⟩
       refine ⟨_, rfl, ?_⟩
       have n0_ := asd (Kd.R_below (by (with_reducible repeat (first | apply Kd.R_alloc | apply Kd.R_drewN | apply Kd.R_drew)); exact HO415.out) hb)
       have n1_ := asd (Kd.S_below (by (with_reducible repeat (first | apply Kd.S_alloc | apply Kd.S_drewN | apply Kd.S_drew)); exact HO418.out) hb)
       have n2_ := asd (Kd.R_below (by (with_reducible repeat (first | apply Kd.R_alloc | apply Kd.R_drewN | apply Kd.R_drew)); exact HO421.out) hb)
       have n3_ := asd (Kd.R_below (by (with_reducible repeat (first | apply Kd.R_alloc | apply Kd.R_drewN | apply Kd.R_drew)); exact HO427.out) hb)
       have n4_ := asd (Kd.S_below (by (with_reducible repeat (first | apply Kd.S_alloc | apply Kd.S_drewN | apply Kd.S_drew)); exact HO430.out) hb)
       have n5_ := asd (Kd.R_below (by (with_reducible repeat (first | apply Kd.R_alloc | apply Kd.R_drewN | apply Kd.R_drew)); exact HO433.out) hb)
       have n6_ := asd (Kd.R_below (by (with_reducible repeat (first | apply Kd.R_alloc | apply Kd.R_drewN | apply Kd.R_drew)); exact HO440.out) hb)
       have n7_ := asd (Kd.S_below (by (with_reducible repeat (first | apply Kd.S_alloc | apply Kd.S_drewN | apply Kd.S_drew)); exact HO443.out) hb)
       have n8_ := asd (Kd.R_below (by (with_reducible repeat (first | apply Kd.R_alloc | apply Kd.R_drewN | apply Kd.R_drew)); exact HO446.out) hb)
       have n9_ := asd (Kd.R_below (by (with_reducible repeat (first | apply Kd.R_alloc | apply Kd.R_drewN | apply Kd.R_drew)); exact HO452.out) hb)
       have n10_ := asd (Kd.S_below (by (with_reducible repeat (first | apply Kd.S_alloc | apply Kd.S_drewN | apply Kd.S_drew)); exact HO455.out) hb)
       have n11_ := asd (Kd.R_below (by (with_reducible repeat (first | apply Kd.R_alloc | apply Kd.R_drewN | apply Kd.R_drew)); exact HO458.out) hb)
       have n12_ := asd (Kd.R_below (by (with_reducible repeat (first | apply Kd.R_alloc | apply Kd.R_drewN | apply Kd.R_drew)); exact HO463.out) hb)
       have n13_ := asd (Kd.S_below (by (with_reducible repeat (first | apply Kd.S_alloc | apply Kd.S_drewN | apply Kd.S_drew)); exact HO466.out) hb)
       have n14_ := asd (Kd.R_below (by (with_reducible repeat (first | apply Kd.R_alloc | apply Kd.R_drewN | apply Kd.R_drew)); exact HO469.out) hb)
       have n15_ := asd (blk_below (g := gb406) (o := .cells #[.int .i64 a0_0, .int .i64 a0_1, .slice A0_2 l0_2.length c0_2, .slice A0_3 l0_3.length c0_3, .slice A0_4 l0_4.length c0_4] 26 (0, 0)) (by (with_reducible repeat first | apply bn | apply bd | apply ba); exact BK406.out) hb)
       have n16_ := asd (blk_below (g := gb407) (o := .cells #[.int .i64 a1_0, .int .i64 a1_1, .slice A1_2 l1_2.length c1_2, .slice A1_3 l1_3.length c1_3, .slice A1_4 l1_4.length c1_4] 26 (0, 0)) (by (with_reducible repeat first | apply bn | apply bd | apply ba); exact BK407.out) hb)
       have n17_ := asd (blk_below (g := gb422) (o := .cells #[.int .i64 t411, .int .i64 t412, .slice Ao40 t413.length co40, .slice Ao41 t416.length co41, .slice Ao42 t419.length co42] 34 (0, 0)) (by (with_reducible repeat first | apply bn | apply bd | apply ba); exact BK422.out) hb)
       have n18_ := asd (below_step (by repeat (first | (with_reducible first | exact HB.out | apply wa | apply wn | apply wd | refine ws ?_ GE406.out | refine ws ?_ GE407.out | refine ws ?_ GE422.out) | exact HB.out)) hb)
       clear HO415
       clear HO418
       clear HO421
       clear HO427
       clear HO430
       clear HO433
       clear HO440
       clear HO443
       clear HO446
       clear HO452
       clear HO455
       clear HO458
       clear HO463
       clear HO466
       clear HO469
       clear BK406
       clear BK407
       clear BK422
       clear HB
       have HO415 := n0_
       have HO418 := n1_
       have HO421 := n2_
       have HO427 := n3_
       have HO430 := n4_
       have HO433 := n5_
       have HO440 := n6_
       have HO443 := n7_
       have HO446 := n8_
       have HO452 := n9_
       have HO455 := n10_
       have HO458 := n11_
       have HO463 := n12_
       have HO466 := n13_
       have HO469 := n14_
       have BK406 := n15_
       have BK407 := n16_
       have BK422 := n17_
       have HB := n18_
       clear n0_ n1_ n2_ n3_ n4_ n5_ n6_ n7_ n8_ n9_ n10_ n11_ n12_ n13_ n14_ n15_ n16_ n17_ n18_
       (try clear hb)
       (try clear hb2)
       (try clear hk)
       (try clear hi)
       refine hK.out _ _ ⟨(blk_cell BK422.out 0).trans rfl, (blk_cell BK422.out 1).trans rfl, (blk_cell BK422.out 2).trans rfl, (blk_cell BK422.out 3).trans rfl, (blk_cell BK422.out 4).trans rfl, (blk_cell BK407.out 0).trans rfl, (blk_cell BK407.out 1).trans rfl, (blk_cell BK407.out 2).trans rfl, (blk_cell BK407.out 3).trans rfl, (blk_cell BK407.out 4).trans rfl, (blk_cell BK406.out 0).trans rfl, (blk_cell BK406.out 1).trans rfl, (blk_cell BK406.out 2).trans rfl, (blk_cell BK406.out 3).trans rfl, (blk_cell BK406.out 4).trans rfl⟩ (fun hHeld => ?_)
       clear hK K
       refine norm_ (a' := ?_) ?_ ?_
       rotate_left
       ·show Act.put _ (some 36) _ = _
        simp only [Act.put, sB, i64_w, i32_w]
        rfl
       refine pure_ (i := 20) (N := some 37) (v := ?_) (a' := ?_) #[true, true, true, true, true, true, true, true, true, true, true, true, true, true, true, true, true, true, true, true, true, false, false, false, false] rfl rfl (any_of HT_.out (by kernel_rfl)) (fun _ _ _ h => h) (Or.inl ⟨by rfl, ?_⟩) ?_ ?_
       rotate_left
       ·intro w'
        go_simp
        with_reducible rfl
       rotate_left
       ·simp only [Act.put, sB, i64_w, i32_w]
        rfl
       refine pure_ (i := 21) (N := some 38) (v := ?_) (a' := ?_) #[true, true, true, true, true, true, true, true, true, true, true, true, true, true, true, true, true, true, true, true, true, true, false, false, false] rfl rfl (any_of HT_.out (by kernel_rfl)) (fun _ _ _ h => h) (Or.inl ⟨by rfl, ?_⟩) ?_ ?_
       rotate_left
       ·intro w'
        go_simp
        with_reducible rfl
       rotate_left
       ·simp only [Act.put, sB, i64_w, i32_w]
        rfl
       refine one_ (i := 22) (N := some 39) #[true, true, true, true, true, true, true, true, true, true, true, true, true, true, true, true, true, true, true, true, true, true, true, false, false] rfl rfl (one_of HT_.out (by kernel_rfl)) (by decide) (fun K hK => ?_)
       refine goes_ Try.func16 (by kernel_rfl) rfl #[] (by rfl) rfl rfl (by (try simp only [List.map_toArray, List.map_cons, List.map_nil]); first | done | rfl | (simp only [List.length_drop, List.length_take]; rfl)) ?_
       with_reducible refine (parcloselaw03_knows.calls kj2  t471 _ A32.out).mono ?_
       rintro e w65 ⟨rfl, hb⟩
       refine ⟨_, rfl, ?_⟩
       have n0_ := asd (Kd.R_below (by (with_reducible repeat (first | apply Kd.R_alloc | apply Kd.R_drewN | apply Kd.R_drew)); exact HO415.out) hb)
       have n1_ := asd (Kd.S_below (by (with_reducible repeat (first | apply Kd.S_alloc | apply Kd.S_drewN | apply Kd.S_drew)); exact HO418.out) hb)
       have n2_ := asd (Kd.R_below (by (with_reducible repeat (first | apply Kd.R_alloc | apply Kd.R_drewN | apply Kd.R_drew)); exact HO421.out) hb)
       have n3_ := asd (Kd.R_below (by (with_reducible repeat (first | apply Kd.R_alloc | apply Kd.R_drewN | apply Kd.R_drew)); exact HO427.out) hb)
       have n4_ := asd (Kd.S_below (by (with_reducible repeat (first | apply Kd.S_alloc | apply Kd.S_drewN | apply Kd.S_drew)); exact HO430.out) hb)
       have n5_ := asd (Kd.R_below (by (with_reducible repeat (first | apply Kd.R_alloc | apply Kd.R_drewN | apply Kd.R_drew)); exact HO433.out) hb)
       have n6_ := asd (Kd.R_below (by (with_reducible repeat (first | apply Kd.R_alloc | apply Kd.R_drewN | apply Kd.R_drew)); exact HO440.out) hb)
       have n7_ := asd (Kd.S_below (by (with_reducible repeat (first | apply Kd.S_alloc | apply Kd.S_drewN | apply Kd.S_drew)); exact HO443.out) hb)
       have n8_ := asd (Kd.R_below (by (with_reducible repeat (first | apply Kd.R_alloc | apply Kd.R_drewN | apply Kd.R_drew)); exact HO446.out) hb)
       have n9_ := asd (Kd.R_below (by (with_reducible repeat (first | apply Kd.R_alloc | apply Kd.R_drewN | apply Kd.R_drew)); exact HO452.out) hb)
       have n10_ := asd (Kd.S_below (by (with_reducible repeat (first | apply Kd.S_alloc | apply Kd.S_drewN | apply Kd.S_drew)); exact HO455.out) hb)
       have n11_ := asd (Kd.R_below (by (with_reducible repeat (first | apply Kd.R_alloc | apply Kd.R_drewN | apply Kd.R_drew)); exact HO458.out) hb)
       have n12_ := asd (Kd.R_below (by (with_reducible repeat (first | apply Kd.R_alloc | apply Kd.R_drewN | apply Kd.R_drew)); exact HO463.out) hb)
       have n13_ := asd (Kd.S_below (by (with_reducible repeat (first | apply Kd.S_alloc | apply Kd.S_drewN | apply Kd.S_drew)); exact HO466.out) hb)
       have n14_ := asd (Kd.R_below (by (with_reducible repeat (first | apply Kd.R_alloc | apply Kd.R_drewN | apply Kd.R_drew)); exact HO469.out) hb)
       have n15_ := asd (blk_below (g := gb406) (o := .cells #[.int .i64 a0_0, .int .i64 a0_1, .slice A0_2 l0_2.length c0_2, .slice A0_3 l0_3.length c0_3, .slice A0_4 l0_4.length c0_4] 26 (0, 0)) (by (with_reducible repeat first | apply bn | apply bd | apply ba); exact BK406.out) hb)
       have n16_ := asd (blk_below (g := gb407) (o := .cells #[.int .i64 a1_0, .int .i64 a1_1, .slice A1_2 l1_2.length c1_2, .slice A1_3 l1_3.length c1_3, .slice A1_4 l1_4.length c1_4] 26 (0, 0)) (by (with_reducible repeat first | apply bn | apply bd | apply ba); exact BK407.out) hb)
       have n17_ := asd (blk_below (g := gb422) (o := .cells #[.int .i64 t411, .int .i64 t412, .slice Ao40 t413.length co40, .slice Ao41 t416.length co41, .slice Ao42 t419.length co42] 34 (0, 0)) (by (with_reducible repeat first | apply bn | apply bd | apply ba); exact BK422.out) hb)
       have n18_ := asd (below_step (by repeat (first | (with_reducible first | exact HB.out | apply wa | apply wn | apply wd | refine ws ?_ GE406.out | refine ws ?_ GE407.out | refine ws ?_ GE422.out) | exact HB.out)) hb)
       clear HO415
       clear HO418
       clear HO421
       clear HO427
       clear HO430
       clear HO433
       clear HO440
       clear HO443
       clear HO446
       clear HO452
       clear HO455
       clear HO458
       clear HO463
       clear HO466
       clear HO469
       clear BK406
       clear BK407
       clear BK422
       clear HB
       have HO415 := n0_
       have HO418 := n1_
       have HO421 := n2_
       have HO427 := n3_
       have HO430 := n4_
       have HO433 := n5_
       have HO440 := n6_
       have HO443 := n7_
       have HO446 := n8_
       have HO452 := n9_
       have HO455 := n10_
       have HO458 := n11_
       have HO463 := n12_
       have HO466 := n13_
       have HO469 := n14_
       have BK406 := n15_
       have BK407 := n16_
       have BK422 := n17_
       have HB := n18_
       clear n0_ n1_ n2_ n3_ n4_ n5_ n6_ n7_ n8_ n9_ n10_ n11_ n12_ n13_ n14_ n15_ n16_ n17_ n18_
       (try clear hb)
       (try clear hb2)
       (try clear hk)
       (try clear hi)
       refine hK.out _ _ ⟨(blk_cell BK422.out 0).trans rfl, (blk_cell BK422.out 1).trans rfl, (blk_cell BK422.out 2).trans rfl, (blk_cell BK422.out 3).trans rfl, (blk_cell BK422.out 4).trans rfl, (blk_cell BK407.out 0).trans rfl, (blk_cell BK407.out 1).trans rfl, (blk_cell BK407.out 2).trans rfl, (blk_cell BK407.out 3).trans rfl, (blk_cell BK407.out 4).trans rfl, (blk_cell BK406.out 0).trans rfl, (blk_cell BK406.out 1).trans rfl, (blk_cell BK406.out 2).trans rfl, (blk_cell BK406.out 3).trans rfl, (blk_cell BK406.out 4).trans rfl⟩ (fun hHeld => ?_)
       clear hK K
       refine norm_ (a' := ?_) ?_ ?_
       rotate_left
       ·show Act.put _ (some 39) _ = _
        simp only [Act.put, sB, i64_w, i32_w]
        rfl
       refine pure_ (i := 23) (N := some 40) (v := ?_) (a' := ?_) #[true, true, true, true, true, true, true, true, true, true, true, true, true, true, true, true, true, true, true, true, true, true, true, true, false] rfl rfl (any_of HT_.out (by kernel_rfl)) (fun _ _ _ h => h) (Or.inl ⟨by rfl, ?_⟩) ?_ ?_
       rotate_left
       ·intro w'
        go_simp
        with_reducible rfl
       rotate_left
       ·simp only [Act.put, sB, i64_w, i32_w]
        rfl
       refine pure_ (i := 24) (N := some 4) (v := ?_) (a' := ?_) #[true, true, true, true, true, true, true, true, true, true, true, true, true, true, true, true, true, true, true, true, true, true, true, true, true] rfl rfl (any_of HT_.out (by kernel_rfl)) (fun _ _ _ h => h) (Or.inl ⟨by rfl, ?_⟩) ?_ ?_
       rotate_left
       ·intro w'
        go_simp
        with_reducible rfl
       rotate_left
       ·simp only [Act.put, sB, i64_w, i32_w]
        rfl
       refine done_ (done_of HT_.out (by kernel_rfl)) ?_
       try go_wp2
       go_ret
       exact ⟨by first | rfl | (simp [*] <;> rfl), by repeat (first | (with_reducible first | exact HB.out | apply wa | apply wn | apply wd | refine ws ?_ GE406.out | refine ws ?_ GE407.out | refine ws ?_ GE422.out) | exact HB.out)⟩
      ·replace c31 := Bool.eq_false_iff.mpr c31
       subst c31
       have H1 : (some false) = some r := by rw [if_neg (show ¬ (false = true) by decide)] at H; exact H
       clear H
       have H := H1
       clear H1
       exact absurd (Option.some.inj H) (by rw [HR__.out]; decide)
     ·replace c27 := Bool.eq_false_iff.mpr c27
      subst c27
      have H1 : (some false) = some r := by rw [if_neg (show ¬ (false = true) by decide)] at H; exact H
      clear H
      have H := H1
      clear H1
      exact absurd (Option.some.inj H) (by rw [HR__.out]; decide)
    ·rw [if_neg c24] at H
     have c24b0 : (t434 == t435) = false := by simpa using c24
     (try (have c24b1 : decide (t434 = t435) = false := by simpa using c24))
     (try (have c24b2 : (t434 == t435) = false := by simpa using c24))
     (try (have c24b3 : ¬ (t434 = t435) := by simpa using c24))
     clear c24
     exact absurd (Option.some.inj H) (by rw [HR__.out]; decide)
end Go.Proofs.Ytmjhnmdmopmfjaa.Fn
namespace Go.Proofs.Ytmjhnmdmopmfjaa.Fn
open Go.RowKit Go.Proofs.YtmjhnmdmopmfjaaW.PrintWords Go.Proofs.YtmjhnmdmopmfjaaW.PrintLast Go.Proofs.YtmjhnmdmopmfjaaW.PrintMore
attribute [local go_sem] max2_int min2_int max_two min_two max_three min_three max_four min_four
set_option linter.unusedVariables false
set_option linter.unusedSimpArgs false
def parcloselaw03_ConfSames.Pure : Prop := ∀ (a0_0 : Int) (a0_1 : Int) (l0_2 : List (S77)) (l0_3 : List (S61)) (l0_4 : List (S78)) (a1_0 : Int) (a1_1 : Int) (l1_2 : List (S77)) (l1_3 : List (S61)) (l1_4 : List (S78)), q26 (⟨a0_0, a0_1, l0_2, l0_3, l0_4⟩ : S26) → q26 (⟨a1_0, a1_1, l1_2, l1_3, l1_4⟩ : S26) → ∃ k, parcloselaw03_ConfSames.f k a0_0 a0_1 l0_2 l0_3 l0_4 a1_0 a1_1 l1_2 l1_3 l1_4 = some true
end Go.Proofs.Ytmjhnmdmopmfjaa.Fn
namespace Go.Proofs.Ytmjhnmdmopmfjaa.Fn
open Go.RowKit Go.Proofs.YtmjhnmdmopmfjaaW.PrintWords Go.Proofs.YtmjhnmdmopmfjaaW.PrintLast Go.Proofs.YtmjhnmdmopmfjaaW.PrintMore
set_option linter.unusedVariables false
set_option linter.unusedSimpArgs false
theorem map_inj {α β : Type} {f : α → β} {g : β → α} (h : ∀ x, g (f x) = x) {l m : List α} : l.map f = m.map f ↔ l = m :=
 ⟨fun e => by
  have := congrArg (List.map g) e
  rwa [List.map_map, List.map_map, show g ∘ f = id from funext h, List.map_id, List.map_id] at this, fun e => by rw [e]⟩
theorem dP_one (x : S61) : dP (cP x) = x := by obtain ⟨x, y, z, u⟩ := x; simp only [dP, cP, dT_cT, dS_cS]
theorem P_ConfSames : parcloselaw03_ConfSames.Pure := by
 intro a b l2 l3 l4 a' b' l2' l3' l4' _ _
 suffices h : Ev (fun k => parcloselaw03_ConfSames.f k a b l2 l3 l4 a' b' l2' l3' l4') true from h.rounds
 refine Ev.congr (fun k => by unfold parcloselaw03_ConfSames.f; rfl) ?_
 refine Ev.bind (light_ev a b l2 l3 l4) ?_
 have hk : ∀ c : Bool, c = true → Ev (fun k => parcloselaw03_ConfSames.j0 k c a b l2 l3 l4 a' b' l2' l3' l4') true := by
  rintro c rfl
  refine Ev.step (fun k => by simp only [parcloselaw03_ConfSames.j0]; rw [if_pos trivial]) ?_
  exact Ev.bind (f := fun _ t => some t) knows3 (Ev.now _)
 cases hlb : lightB l2 l3 l4 with
 | false => simpa using hk true rfl
 | true =>
  simp only [if_true]
  refine Ev.bind (light_ev a' b' l2' l3' l4') ?_
  cases hlb' : lightB l2' l3' l4' with
  | false => exact hk _ rfl
  | true =>
   refine Ev.step (fun k => by simp only [parcloselaw03_ConfSames.j0]; rw [if_neg (by decide)]) ?_
   obtain ⟨h2, h3, h4, hf⟩ := light_of hlb
   refine Ev.bind (config_ev hlb) ?_
   refine Ev.bind (config_ev hlb') ?_
   have hs := Same_ev a b (l2.map cW) (l3.map cP) (l4.map cC) a' b' (l2'.map cW) (l3'.map cP) (l4'.map cC) (by simp; omega) (by simp; omega) (by simp; omega) (cP_few hf)
   have hr := RSame_ev a b l2 l3 l4 a' b' l2' l3' l4' (by omega) (by omega) hf (by omega)
   have e : (a = a' ∧ b = b' ∧ l2.map cW = l2'.map cW ∧ l3.map cP = l3'.map cP ∧ l4.map cC = l4'.map cC) ↔ (a = a' ∧ b = b' ∧ l2 = l2' ∧ l3 = l3' ∧ l4 = l4') := by
    rw [map_inj (f := cW) (g := dW) (fun _ => rfl), map_inj (f := cP) (g := dP) dP_one, map_inj (f := cC) (g := dC) (fun _ => rfl)]
   have hs := hs.iff e
   have tail : Ev (fun k => (conf_Clone.f k a b (l2.map cW) (l3.map cP) (l4.map cC)).bind fun bt436 => (conf_Same.f k a b (l2.map cW) (l3.map cP) (l4.map cC) bt436.1 bt436.2.1 bt436.2.2.1 bt436.2.2.2.1 bt436.2.2.2.2).bind fun t447 => (if t447 = true then ((conf_Clone.f k a b (l2.map cW) (l3.map cP) (l4.map cC)).bind fun bt448 => ((parcloselaw03_Ref.f k bt448.1 bt448.2.1 bt448.2.2.1 bt448.2.2.2.1 bt448.2.2.2.2).bind fun bt459 => ((parcloseref03_Same.f k bt459.1 bt459.2.1 bt459.2.2.1 bt459.2.2.2.1 bt459.2.2.2.2 a b l2 l3 l4).bind fun t470 => (if t470 = true then ((parcloselaw03_knows.f k).bind fun t471 => (some t471)) else (some false))))) else (some false))) true := by
    have hcl : Ev (fun k => conf_Clone.f k a b (l2.map cW) (l3.map cP) (l4.map cC)) (a, b, l2.map cW, l3.map cP, l4.map cC) := clone_ev (by simp; omega) (by simp; omega) (by simp; omega) (cP_few hf)
    refine Ev.bind hcl ?_
    refine Ev.bind ((Same_ev a b (l2.map cW) (l3.map cP) (l4.map cC) a b (l2.map cW) (l3.map cP) (l4.map cC) (by simp; omega) (by simp; omega) (by simp; omega) (cP_few hf)).1 ⟨rfl, rfl, rfl, rfl, rfl⟩) ?_
    refine Ev.congr (fun k => by rw [if_pos rfl]) ?_
    refine Ev.bind hcl ?_
    refine Ev.bind (rconfig_ev (by simp; omega) (by simp; omega) (by simp; omega) (cP_few hf)) ?_
    rw [dW_cW, dP_cP, dC_cC]
    refine Ev.bind ((RSame_ev a b l2 l3 l4 a b l2 l3 l4 (by omega) (by omega) hf (by omega)).1 ⟨rfl, rfl, rfl, rfl, rfl⟩) ?_
    refine Ev.congr (fun k => by rw [if_pos rfl]) ?_
    exact Ev.bind (f := fun _ t => some t) knows3 (Ev.now _)
   by_cases hE : a = a' ∧ b = b' ∧ l2 = l2' ∧ l3 = l3' ∧ l4 = l4'
   ·refine Ev.bind (hs.1 hE) ?_
    refine Ev.bind (hr.1 hE) ?_
    exact Ev.congr (fun k => by rw [if_pos (by simp)]) tail
   ·refine Ev.bind (hs.2 hE) ?_
    refine Ev.bind (hr.2 hE) ?_
    exact Ev.congr (fun k => by rw [if_pos (by simp)]) tail
end Go.Proofs.Ytmjhnmdmopmfjaa.Fn
