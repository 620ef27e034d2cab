/- Part of the proof of ConfSames: see the last text. (Words laid by the print, as far as they are named here; walks written by a program of this project; plain laws.) -/
import Derived.Test.YtmjhnmdmopmfjaaConfSamesZ2
namespace Go.Proofs.Ytmjhnmdmopmfjaa.Fn
open Go.RowKit Go.Proofs.YtmjhnmdmopmfjaaW.PrintWords Go.Proofs.YtmjhnmdmopmfjaaW.PrintLast Go.Proofs.YtmjhnmdmopmfjaaW.PrintMore
attribute [local go_sem] max2_int min2_int max_two min_two max_three min_three max_four min_four
set_option linter.unusedVariables false
set_option linter.unusedSimpArgs false
mutual
def parcloselaw03_Ref.l0 : Nat → Int → Int → Int → List (S42) → List (S49) → List (S44) → Int → Int → List (S77) → Option (Int × Int × (List (S77)) × (List (S61)) × (List (S78)))
 | 0, _, _, _, _, _, _, _, _, _ => none
 | k + 1, x4, x260000, x260001, x260002, x260003, x260004, x262000, x262001, x262002 => if x4 < (x260002.length : Int) then (if 0 ≤ x4 then (if x262002.length < 5864062014805 then (parcloselaw03_Ref.l0 k (wrap64 (x4 + 1)) x260000 x260001 x260002 x260003 x260004 x262000 x262001 (x262002 ++ [(⟨(rd_T42 x260002 x4).f0, (rd_T42 x260002 x4).f1, (rd_T42 x260002 x4).f2⟩ : S77)])) else (none)) else (none)) else (parcloselaw03_Ref.l1 k 0 x260000 x260001 x260002 x260003 x260004 x262000 x262001 x262002 ([] : List (S61)))
def parcloselaw03_Ref.l1 : Nat → Int → Int → Int → List (S42) → List (S49) → List (S44) → Int → Int → List (S77) → List (S61) → Option (Int × Int × (List (S77)) × (List (S61)) × (List (S78)))
 | 0, _, _, _, _, _, _, _, _, _, _ => none
 | k + 1, x5, x260000, x260001, x260002, x260003, x260004, x262000, x262001, x262002, x262003 => if x5 < (x260003.length : Int) then (if 0 ≤ x5 then ((parcloselaw03_RefPart.f k ((rd_T49 x260003 x5).f0) ((rd_T49 x260003 x5).f1) ((rd_T49 x260003 x5).f2) ((rd_T49 x260003 x5).f3.f0) ((rd_T49 x260003 x5).f3.f1) ((rd_T49 x260003 x5).f3.f2)).bind fun bt267 => (if x262003.length < 1759218604441 then (parcloselaw03_Ref.l1 k (wrap64 (x5 + 1)) x260000 x260001 x260002 x260003 x260004 x262000 x262001 x262002 (x262003 ++ [(⟨bt267.1, bt267.2.1, bt267.2.2.1, (⟨bt267.2.2.2.1, bt267.2.2.2.2.1, bt267.2.2.2.2.2⟩ : S47)⟩ : S61)])) else (none))) else (none)) else (parcloselaw03_Ref.l2 k 0 x260000 x260001 x260002 x260003 x260004 x262000 x262001 x262002 x262003 ([] : List (S78)))
def parcloselaw03_Ref.l2 : Nat → Int → Int → Int → List (S42) → List (S49) → List (S44) → Int → Int → List (S77) → List (S61) → List (S78) → Option (Int × Int × (List (S77)) × (List (S61)) × (List (S78)))
 | 0, _, _, _, _, _, _, _, _, _, _, _ => none
 | k + 1, x6, x260000, x260001, x260002, x260003, x260004, x262000, x262001, x262002, x262003, x262004 => if x6 < (x260004.length : Int) then (if 0 ≤ x6 then (if x262004.length < 4398046511104 then (parcloselaw03_Ref.l2 k (wrap64 (x6 + 1)) x260000 x260001 x260002 x260003 x260004 x262000 x262001 x262002 x262003 (x262004 ++ [(⟨(rd_T44 x260004 x6).f0, (rd_T44 x260004 x6).f1, (rd_T44 x260004 x6).f2, (rd_T44 x260004 x6).f3⟩ : S78)])) else (none)) else (none)) else (some (x262000, x262001, x262002, x262003, x262004))
end
def parcloselaw03_Ref.f (k : Nat) (a0_0 : Int) (a0_1 : Int) (l0_2 : List (S42)) (l0_3 : List (S49)) (l0_4 : List (S44)) : Option (Int × Int × (List (S77)) × (List (S61)) × (List (S78))) := parcloselaw03_Ref.l0 k 0 a0_0 a0_1 l0_2 l0_3 l0_4 a0_0 a0_1 ([] : List (S77))
def parcloselaw03_Ref.T5 : Bool × List (List Nat × List Nat) := (true, [([], []), ([0], [0]), ([], []), ([2], [2]), ([], []), ([3, 4], [3, 4]), ([5], [5]), ([6], [6]), ([1, 7], [1, 7]), ([0, 1, 2, 3, 4, 5, 6, 7, 8], []), ([9, 8, 8, 0, 1, 2, 3, 4, 5, 6, 7, 8], [8, 9])])
def parcloselaw03_Ref.B5 : List Nat := [0, 1, 0, 4, 0, 28, 60, 124, 255, 511, 1023]
theorem parcloselaw03_Ref.tab5 : rtab .any (opsOf Try.f24 5) = parcloselaw03_Ref.T5 := by kernel_rfl
theorem parcloselaw03_Ref.bits5 : waitsOk parcloselaw03_Ref.T5.2 parcloselaw03_Ref.B5 = true := by kernel_rfl
def parcloselaw03_Ref.T9 : Bool × List (List Nat × List Nat) := (true, [([], []), ([0], [0]), ([], []), ([2], [2]), ([], []), ([3, 4], [3, 4]), ([5], [5]), ([6], [6]), ([7], [7]), ([1, 8, 7], [1, 8]), ([0, 1, 2, 3, 4, 5, 6, 7, 8, 9], []), ([10, 9, 9, 0, 1, 2, 3, 4, 5, 6, 7, 8, 9], [9, 10])])
def parcloselaw03_Ref.B9 : List Nat := [0, 1, 0, 4, 0, 28, 60, 124, 252, 511, 1023, 2047]
theorem parcloselaw03_Ref.tab9 : rtab .any (opsOf Try.f24 9) = parcloselaw03_Ref.T9 := by kernel_rfl
theorem parcloselaw03_Ref.bits9 : waitsOk parcloselaw03_Ref.T9.2 parcloselaw03_Ref.B9 = true := by kernel_rfl
def parcloselaw03_Ref.T13 : Bool × List (List Nat × List Nat) := (true, [([], []), ([0], [0]), ([], []), ([2], [2]), ([], []), ([3, 4], [3, 4]), ([5], [5]), ([6], [6]), ([1, 7], [1, 7]), ([0, 1, 2, 3, 4, 5, 6, 7, 8], []), ([9, 8, 8, 0, 1, 2, 3, 4, 5, 6, 7, 8], [8, 9])])
def parcloselaw03_Ref.B13 : List Nat := [0, 1, 0, 4, 0, 28, 60, 124, 255, 511, 1023]
theorem parcloselaw03_Ref.tab13 : rtab .any (opsOf Try.f24 13) = parcloselaw03_Ref.T13 := by kernel_rfl
theorem parcloselaw03_Ref.bits13 : waitsOk parcloselaw03_Ref.T13.2 parcloselaw03_Ref.B13 = true := by kernel_rfl
set_option maxHeartbeats 8000000 in
set_option maxRecDepth 100000 in
theorem parcloselaw03_Ref.calls (k : Nat) (a0_0 : Int) (a0_1 : Int) (A0_2 : Option Addr) (c0_2 : Nat) (l0_2 : List (S42)) (A0_3 : Option Addr) (c0_3 : Nat) (l0_3 : List (S49)) (A0_4 : Option Addr) (c0_4 : Nat) (l0_4 : List (S44)) (r1 : Int) (r2 : Int) (r3 : List (S77)) (r4 : List (S61)) (r5 : List (S78)) (w : World) (hr0_2 : Kd.C k42 w A0_2 l0_2.length l0_2) (hc0_2 : l0_2.length ≤ c0_2) (hr0_3 : Kd.C k49 w A0_3 l0_3.length l0_3) (hc0_3 : l0_3.length ≤ c0_3) (hr0_4 : Kd.C k44 w A0_4 l0_4.length l0_4) (hc0_4 : l0_4.length ≤ c0_4) (h : parcloselaw03_Ref.f k a0_0 a0_1 l0_2 l0_3 l0_4 = some (r1, r2, r3, r4, r5)) :
  Calls Try.prog 24 #[.agg #[.int .i64 a0_0, .int .i64 a0_1, .slice A0_2 l0_2.length c0_2, .slice A0_3 l0_3.length c0_3, .slice A0_4 l0_4.length c0_4]] w fun e w' => ∃ v2_ v3_ v4_ : Value, e = .returned (.agg #[.int .i64 r1, .int .i64 r2, v2_, v3_, v4_]) ∧ Kd.R k77 77 w' w.heap.size (fun _ => True) v2_ r3 ∧ Kd.S k61 61 w' w.heap.size (fun _ => True) v3_ r4 ∧ Kd.R k78 78 w' w.heap.size (fun _ => True) v4_ r5 ∧ Below w.heap.size w w' := by
 have hu34 := Try.underlying34
 have hu26 := Try.underlying26
 have hu42 := Try.underlying42
 have hu49 := Try.underlying49
 have hu44 := Try.underlying44
 have HR0_2 := asd hr0_2
 have HC0_2 := asd hc0_2
 clear hr0_2 hc0_2
 have HR0_3 := asd hr0_3
 have HC0_3 := asd hc0_3
 clear hr0_3 hc0_3
 have HR0_4 := asd hr0_4
 have HC0_4 := asd hc0_4
 clear hr0_4 hc0_4
 have HB := asd (Below.refl w.heap.size w)
 have H : (parcloselaw03_Ref.l0 k 0 a0_0 a0_1 l0_2 l0_3 l0_4 a0_0 a0_1 ([] : List (S77))) = some (r1, r2, r3, r4, r5) := h
 clear h
 have H' := asd H
 clear H
 go_enter Try.func24, Try.ntmps24
 go_wp2_with (first | ((with_reducible refine gate_dst (N := 1) rfl ?_); refine box_event ?hg (N := 1) ?hd (cs := #[.int .i64 a0_0, .int .i64 a0_1, .slice A0_2 l0_2.length c0_2, .slice A0_3 l0_3.length c0_3, .slice A0_4 l0_4.length c0_4]) (t := 34) ?hr ?_; (case hd => rfl); (case hg => rfl); (case hr => first | (go_simp; done) | (go_simp; rfl)); intro gb259 hg w2 hbox hb; have n0_ := asd (below_step (by repeat (first | (with_reducible first | exact HB.out | apply wa | apply wn | apply wd) | exact HB.out)) hb); have n1_ := asd (hbox); have n2_ := asd ((by rw [hg]; exact (below_size (by repeat (first | (with_reducible first | exact HB.out | apply wa | apply wn | apply wd) | exact HB.out))) : w.heap.size ≤ gb259)); have n3_ := asd ((by rw [hg]; exact (below_size (by repeat (first | (with_reducible first | exact HB.out | apply wa | apply wn | apply wd) | exact HB.out))) : w.heap.size ≤ gb259)); clear HB; have HB := n0_; have BK259 := n1_; have GW259 := n2_; have GE259 := n3_; clear n0_ n1_ n2_ n3_; clear hb hbox hg) | ((with_reducible refine gate_dst (N := 2) rfl ?_); refine box_event ?hg (N := 2) ?hd (cs := #[.int .i64 0, .int .i64 0, .slice none 0 0, .slice none 0 0, .slice none 0 0]) (t := 26) ?hr ?_; (case hd => rfl); (case hg => rfl); (case hr => first | (go_simp; done) | (go_simp; rfl)); intro gb260 hg w3 hbox hb; have n0_ := asd (blk_below (g := gb259) (o := .cells #[.int .i64 a0_0, .int .i64 a0_1, .slice A0_2 l0_2.length c0_2, .slice A0_3 l0_3.length c0_3, .slice A0_4 l0_4.length c0_4] 34 (0, 0)) (by (with_reducible repeat first | apply bn | apply bd | apply ba); exact BK259.out) hb); have n1_ := asd (below_step (by repeat (first | (with_reducible first | exact HB.out | apply wa | apply wn | apply wd | refine ws ?_ GE259.out) | exact HB.out)) hb); have n2_ := asd (hbox); have n3_ := asd ((by rw [hg]; exact (below_size (by repeat (first | (with_reducible first | exact HB.out | apply wa | apply wn | apply wd | refine ws ?_ GE259.out) | exact HB.out))) : w.heap.size ≤ gb260)); have n4_ := asd ((by rw [hg]; exact (below_size (by repeat (first | (with_reducible first | exact HB.out | apply wa | apply wn | apply wd | refine ws ?_ GE259.out) | exact HB.out))) : w.heap.size ≤ gb260)); have n5_ := asd ((by rw [hg]; exact Nat.ne_of_lt (blk_lt (g := gb259) (o := .cells #[.int .i64 a0_0, .int .i64 a0_1, .slice A0_2 l0_2.length c0_2, .slice A0_3 l0_3.length c0_3, .slice A0_4 l0_4.length c0_4] 34 (0, 0)) (by (with_reducible repeat first | apply bn | apply bd | apply ba); exact BK259.out)) : gb259 ≠ gb260)); have n6_ := asd ((by rw [hg]; exact Nat.ne_of_gt (blk_lt (g := gb259) (o := .cells #[.int .i64 a0_0, .int .i64 a0_1, .slice A0_2 l0_2.length c0_2, .slice A0_3 l0_3.length c0_3, .slice A0_4 l0_4.length c0_4] 34 (0, 0)) (by (with_reducible repeat first | apply bn | apply bd | apply ba); exact BK259.out)) : gb260 ≠ gb259)); clear BK259; clear HB; have BK259 := n0_; have HB := n1_; have BK260 := n2_; have GW260 := n3_; have GE260 := n4_; have NB259_260 := n5_; have NB260_259 := n6_; clear n0_ n1_ n2_ n3_ n4_ n5_ n6_; clear hb hbox hg; have hnb4 := NB259_260.out; have hnc4 := NB260_259.out; have hcz5_0 : w3.cell? ⟨gb259, 0, none⟩ = some (.int .i64 a0_0) := (blk_cell BK259.out 0).trans rfl; have hcz5_1 : w3.cell? ⟨gb259, 1, none⟩ = some (.int .i64 a0_1) := (blk_cell BK259.out 1).trans rfl; have hcz5_2 : w3.cell? ⟨gb259, 2, none⟩ = some (.slice A0_2 l0_2.length c0_2) := (blk_cell BK259.out 2).trans rfl; have hcz5_3 : w3.cell? ⟨gb259, 3, none⟩ = some (.slice A0_3 l0_3.length c0_3) := (blk_cell BK259.out 3).trans rfl; have hcz5_4 : w3.cell? ⟨gb259, 4, none⟩ = some (.slice A0_4 l0_4.length c0_4) := (blk_cell BK259.out 4).trans rfl; have hfz5_0 := blk_frozen BK259.out 0; have hfz5_1 := blk_frozen BK259.out 1; have hfz5_2 := blk_frozen BK259.out 2; have hfz5_3 := blk_frozen BK259.out 3; have hfz5_4 := blk_frozen BK259.out 4) | ((with_reducible refine gate_dst (N := 3) rfl ?_); refine box_event ?hg (N := 3) ?hd (cs := #[.int .i64 0, .int .i64 0, .slice none 0 0, .slice none 0 0, .slice none 0 0]) (t := 26) ?hr ?_; (case hd => rfl); (case hg => rfl); (case hr => first | (go_simp; done) | (go_simp; rfl)); intro gb261 hg w6 hbox hb; have n0_ := asd (blk_below (g := gb259) (o := .cells #[.int .i64 a0_0, .int .i64 a0_1, .slice A0_2 l0_2.length c0_2, .slice A0_3 l0_3.length c0_3, .slice A0_4 l0_4.length c0_4] 34 (0, 0)) (by (with_reducible repeat first | apply bn | apply bd | apply ba); exact BK259.out) hb); have n1_ := asd (blk_below (g := gb260) (o := .cells #[.int .i64 0, .int .i64 0, .slice none 0 0, .slice none 0 0, .slice none 0 0] 26 (0, 0)) (by (with_reducible repeat first | apply bn | apply bd | apply ba); exact BK260.out) hb); have n2_ := asd (below_step (by repeat (first | (with_reducible first | exact HB.out | apply wa | apply wn | apply wd | refine ws ?_ GE259.out | refine ws ?_ GE260.out) | exact HB.out)) hb); have n3_ := asd (hbox); have n4_ := asd ((by rw [hg]; exact (below_size (by repeat (first | (with_reducible first | exact HB.out | apply wa | apply wn | apply wd | refine ws ?_ GE259.out | refine ws ?_ GE260.out) | exact HB.out))) : w.heap.size ≤ gb261)); have n5_ := asd ((by rw [hg]; exact (below_size (by repeat (first | (with_reducible first | exact HB.out | apply wa | apply wn | apply wd | refine ws ?_ GE259.out | refine ws ?_ GE260.out) | exact HB.out))) : w.heap.size ≤ gb261)); have n6_ := asd ((by rw [hg]; exact Nat.ne_of_lt (blk_lt (g := gb259) (o := .cells #[.int .i64 a0_0, .int .i64 a0_1, .slice A0_2 l0_2.length c0_2, .slice A0_3 l0_3.length c0_3, .slice A0_4 l0_4.length c0_4] 34 (0, 0)) (by (with_reducible repeat first | apply bn | apply bd | apply ba); exact BK259.out)) : gb259 ≠ gb261)); have n7_ := asd ((by rw [hg]; exact Nat.ne_of_gt (blk_lt (g := gb259) (o := .cells #[.int .i64 a0_0, .int .i64 a0_1, .slice A0_2 l0_2.length c0_2, .slice A0_3 l0_3.length c0_3, .slice A0_4 l0_4.length c0_4] 34 (0, 0)) (by (with_reducible repeat first | apply bn | apply bd | apply ba); exact BK259.out)) : gb261 ≠ gb259)); have n8_ := asd ((by rw [hg]; exact Nat.ne_of_lt (blk_lt (g := gb260) (o := .cells #[.int .i64 0, .int .i64 0, .slice none 0 0, .slice none 0 0, .slice none 0 0] 26 (0, 0)) (by (with_reducible repeat first | apply bn | apply bd | apply ba); exact BK260.out)) : gb260 ≠ gb261)); have n9_ := asd ((by rw [hg]; exact Nat.ne_of_gt (blk_lt (g := gb260) (o := .cells #[.int .i64 0, .int .i64 0, .slice none 0 0, .slice none 0 0, .slice none 0 0] 26 (0, 0)) (by (with_reducible repeat first | apply bn | apply bd | apply ba); exact BK260.out)) : gb261 ≠ gb260)); clear BK259; clear BK260; clear HB; have BK259 := n0_; have BK260 := n1_; have HB := n2_; have BK261 := n3_; have GW261 := n4_; have GE261 := n5_; have NB259_261 := n6_; have NB261_259 := n7_; have NB260_261 := n8_; have NB261_260 := n9_; clear n0_ n1_ n2_ n3_ n4_ n5_ n6_ n7_ n8_ n9_; clear hb hbox hg; have hnb7 := NB261_259.out; have hnc7 := NB259_261.out; have hnb8 := NB261_260.out; have hnc8 := NB260_261.out; have hcz9_0 : w6.cell? ⟨gb261, 0, none⟩ = some (.int .i64 0) := (blk_cell BK261.out 0).trans rfl; have hcz9_1 : w6.cell? ⟨gb261, 1, none⟩ = some (.int .i64 0) := (blk_cell BK261.out 1).trans rfl; have hcz9_2 : w6.cell? ⟨gb261, 2, none⟩ = some (.slice none 0 0) := (blk_cell BK261.out 2).trans rfl; have hcz9_3 : w6.cell? ⟨gb261, 3, none⟩ = some (.slice none 0 0) := (blk_cell BK261.out 3).trans rfl; have hcz9_4 : w6.cell? ⟨gb261, 4, none⟩ = some (.slice none 0 0) := (blk_cell BK261.out 4).trans rfl; have hfz9_0 := blk_frozen BK261.out 0; have hfz9_1 := blk_frozen BK261.out 1; have hfz9_2 := blk_frozen BK261.out 2; have hfz9_3 := blk_frozen BK261.out 3; have hfz9_4 := blk_frozen BK261.out 4))
 go_loopg [4] k (fun kq v4 w' => ∃ (x4_1 : Int) (x262002_1 : List (S77)) (u262002 : Value), v4 = .int .i64 x4_1 ∧ Aside0 (parcloselaw03_Ref.l0 kq x4_1 a0_0 a0_1 l0_2 l0_3 l0_4 a0_0 a0_1 x262002_1 = some (r1, r2, r3, r4, r5)) ∧ Aside0 (kq ≤ k) ∧ Aside0 (Kd.R k77 77 w' w.heap.size (fun _ => True) u262002 x262002_1) ∧ Aside0 (w'.heap[gb259]? = some (.cells #[.int .i64 a0_0, .int .i64 a0_1, (.slice A0_2 l0_2.length c0_2), (.slice A0_3 l0_3.length c0_3), (.slice A0_4 l0_4.length c0_4)] 34 (0, 0))) ∧ Aside0 (w'.heap[gb260]? = some (.cells #[.int .i64 0, .int .i64 0, (.slice none 0 0), (.slice none 0 0), (.slice none 0 0)] 26 (0, 0))) ∧ Aside0 (w'.heap[gb261]? = some (.cells #[.int .i64 a0_0, .int .i64 a0_1, u262002, (.slice none 0 0), (.slice none 0 0)] 26 (0, 0))) ∧ Aside0 (Below w.heap.size w w'))
 case atStart => exact ⟨(0), (([] : List (S77))), (.slice none 0 0), (by first | rfl | (simp; done) | (simp [*]; done)), H', ⟨Nat.le_refl _⟩, ⟨by first | exact Kd.R_nil _ _ _ _ _ | exact Kd.N_nil _ _ _ _ _ | exact Kd.V_nil _ _ _ _ _ | exact Kd.Q_nil _ _ _ _ _ | exact Kd.S_nil _ _ _ _ _⟩, ⟨by (with_reducible repeat first | apply bn | apply bd | apply ba); refine blk_far ?_ NB259_261.out _; (with_reducible repeat first | apply bn | apply bd | apply ba); refine blk_far ?_ NB259_261.out _; (with_reducible repeat first | apply bn | apply bd | apply ba); refine blk_far ?_ NB259_261.out _; (with_reducible repeat first | apply bn | apply bd | apply ba); refine blk_far ?_ NB259_261.out _; (with_reducible repeat first | apply bn | apply bd | apply ba); refine blk_far ?_ NB259_261.out _; (with_reducible repeat first | apply bn | apply bd | apply ba); exact BK259.out⟩, ⟨by (with_reducible repeat first | apply bn | apply bd | apply ba); refine blk_far ?_ NB260_261.out _; (with_reducible repeat first | apply bn | apply bd | apply ba); refine blk_far ?_ NB260_261.out _; (with_reducible repeat first | apply bn | apply bd | apply ba); refine blk_far ?_ NB260_261.out _; (with_reducible repeat first | apply bn | apply bd | apply ba); refine blk_far ?_ NB260_261.out _; (with_reducible repeat first | apply bn | apply bd | apply ba); refine blk_far ?_ NB260_261.out _; (with_reducible repeat first | apply bn | apply bd | apply ba); exact BK260.out⟩, ⟨by (with_reducible repeat first | apply bn | apply bd | apply ba); refine blk_put (cs := #[.int .i64 a0_0, .int .i64 a0_1, .slice none 0 0, .slice none 0 0, .slice none 0 0]) ?_ 4 _ rfl; (with_reducible repeat first | apply bn | apply bd | apply ba); refine blk_put (cs := #[.int .i64 a0_0, .int .i64 a0_1, .slice none 0 0, .slice none 0 0, .slice none 0 0]) ?_ 3 _ rfl; (with_reducible repeat first | apply bn | apply bd | apply ba); refine blk_put (cs := #[.int .i64 a0_0, .int .i64 a0_1, .slice none 0 0, .slice none 0 0, .slice none 0 0]) ?_ 2 _ rfl; (with_reducible repeat first | apply bn | apply bd | apply ba); refine blk_put (cs := #[.int .i64 a0_0, .int .i64 0, .slice none 0 0, .slice none 0 0, .slice none 0 0]) ?_ 1 _ rfl; (with_reducible repeat first | apply bn | apply bd | apply ba); refine blk_put (cs := #[.int .i64 0, .int .i64 0, .slice none 0 0, .slice none 0 0, .slice none 0 0]) ?_ 0 _ rfl; (with_reducible repeat first | apply bn | apply bd | apply ba); exact BK261.out⟩, ⟨by repeat (first | (with_reducible first | exact HB.out | apply wa | apply wn | apply wd | refine ws ?_ GE259.out | refine ws ?_ GE260.out | refine ws ?_ GE261.out) | exact HB.out)⟩⟩
 case round =>
  clear H'
  try clear c2
  try clear p2
  try clear c4
  try clear c7
  try clear c8
  try clear hcz5_0
  try clear hcz5_1
  try clear hcz5_2
  try clear hcz5_3
  try clear hcz5_4
  try clear hcz9_0
  try clear hcz9_1
  try clear hcz9_2
  try clear hcz9_3
  try clear hcz9_4
  try clear hfz5_0
  try clear hfz5_1
  try clear hfz5_2
  try clear hfz5_3
  try clear hfz5_4
  try clear hfz9_0
  try clear hfz9_1
  try clear hfz9_2
  try clear hfz9_3
  try clear hfz9_4
  obtain ⟨x4_1, x262002_1, u262002, rfl, HA, HK1, HO_262002, BK259, BK260, BK261, HB⟩ := hrel
  cases gk with
  | zero => exact absurd HA.out (by simp [parcloselaw03_Ref.l0])
  | succ k1 =>
   have H := HA.out
   clear HA
   simp only [parcloselaw03_Ref.l0] at H
   by_cases c10 : x4_1 < (l0_2.length : Int)
   ·rw [if_pos c10] at H
    have c10b0 : decide (x4_1 < (l0_2.length : Int)) = true := decide_eq_true c10
    clear c10
    by_cases c11 : 0 ≤ x4_1
    ·rw [if_pos c11] at H
     have c11b0 : decide (0 ≤ x4_1) = true := decide_eq_true c11
     clear c11
     by_cases c12 : x262002_1.length < 5864062014805
     ·rw [if_pos c12] at H
      have LMc12 := asd c12
      clear c12
      obtain ⟨y263, hy263⟩ : ∃ y_ : List (S77), y_ = (x262002_1 ++ [(⟨(rd_T42 l0_2 x4_1).f0, (rd_T42 l0_2 x4_1).f1, (rd_T42 l0_2 x4_1).f2⟩ : S77)]) := ⟨_, rfl⟩
      replace H : (parcloselaw03_Ref.l0 k1 (wrap64 (x4_1 + 1)) a0_0 a0_1 l0_2 l0_3 l0_4 a0_0 a0_1 y263) = some (r1, r2, r3, r4, r5) := by first | (rw [hy263]; with_reducible exact H) | (have H2_ := (Option.bind_some _ _).symm.trans H; rw [hy263]; with_reducible exact H2_) | (have H2_ := (Option.bind_some _ _).symm.trans H; with_reducible exact H2_) | with_reducible exact H | (rw [hy263]; exact H) | exact H
      have Ny263 := asd hy263
      clear hy263
      have H' := asd H
      clear H
      have hnb13 := NB259_260.out
      have hnc13 := NB260_259.out
      have hnb14 := NB259_261.out
      have hnc14 := NB261_259.out
      have hcz15_0 : wr.cell? ⟨gb259, 0, none⟩ = some (.int .i64 a0_0) := (blk_cell BK259.out 0).trans rfl
      have hcz15_1 : wr.cell? ⟨gb259, 1, none⟩ = some (.int .i64 a0_1) := (blk_cell BK259.out 1).trans rfl
      have hcz15_2 : wr.cell? ⟨gb259, 2, none⟩ = some (.slice A0_2 l0_2.length c0_2) := (blk_cell BK259.out 2).trans rfl
      have hcz15_3 : wr.cell? ⟨gb259, 3, none⟩ = some (.slice A0_3 l0_3.length c0_3) := (blk_cell BK259.out 3).trans rfl
      have hcz15_4 : wr.cell? ⟨gb259, 4, none⟩ = some (.slice A0_4 l0_4.length c0_4) := (blk_cell BK259.out 4).trans rfl
      have hfz15_0 := blk_frozen BK259.out 0
      have hfz15_1 := blk_frozen BK259.out 1
      have hfz15_2 := blk_frozen BK259.out 2
      have hfz15_3 := blk_frozen BK259.out 3
      have hfz15_4 := blk_frozen BK259.out 4
      try go_wp2
      have n0_ := asd (Kd.R_drew HO_262002.out)
      have n1_ := asd (blk_drew BK259.out)
      have n2_ := asd (blk_drew BK260.out)
      have n3_ := asd (blk_drew BK261.out)
      have n4_ := asd (below_drew1 HB.out)
      clear HO_262002
      clear BK259
      clear BK260
      clear BK261
      clear HB
      have HO_262002 := n0_
      have BK259 := n1_
      have BK260 := n2_
      have BK261 := n3_
      have HB := n4_
      clear n0_ n1_ n2_ n3_ n4_
      have p262 : 0 ≤ (x4_1 : Int) := of_decide_eq_true (by assumption)
      have q262 : x4_1 < (l0_2.length : Int) := of_decide_eq_true (by assumption)
      obtain ⟨ad262, e262, hx262_0, hx262_1, hx262_2⟩ := at_T42 HR0_2.out x4_1 p262 q262
      have hw262_2 := hx262_2
      have hw262_1 := hx262_1
      have hw262_0 := hx262_0
      cases e262
      replace hx262_0 := (HB.out.cell (World.block_lt_of_cell? w _ hx262_0)).trans hx262_0
      replace hx262_1 := (HB.out.cell (World.block_lt_of_cell? w _ hx262_1)).trans hx262_1
      replace hx262_2 := (HB.out.cell (World.block_lt_of_cell? w _ hx262_2)).trans hx262_2
      replace p262 := eq_true p262
      replace q262 := eq_true q262
      refine start_ (n := 11) (S := fun w' => w'.cell? ⟨gb261, 0, none⟩ = some (.int .i64 a0_0) ∧ w'.cell? ⟨gb261, 1, none⟩ = some (.int .i64 a0_1) ∧ w'.cell? ⟨gb261, 2, none⟩ = some (u262002) ∧ w'.cell? ⟨gb261, 3, none⟩ = some (.slice none 0 0) ∧ w'.cell? ⟨gb261, 4, none⟩ = some (.slice none 0 0) ∧ w'.cell? ⟨gb259, 0, none⟩ = some (.int .i64 a0_0) ∧ w'.cell? ⟨gb259, 1, none⟩ = some (.int .i64 a0_1) ∧ w'.cell? ⟨gb259, 2, none⟩ = some (.slice (some ad262) l0_2.length c0_2) ∧ w'.cell? ⟨gb259, 3, none⟩ = some (.slice A0_3 l0_3.length c0_3) ∧ w'.cell? ⟨gb259, 4, none⟩ = some (.slice A0_4 l0_4.length c0_4) ∧ w'.cell? (ad262.add ((x4_1).toNat * 3)) = some (.int .i64 ((rd_T42 l0_2 x4_1).f0)) ∧ w'.cell? ⟨(ad262.add ((x4_1).toNat * 3)).block, (ad262.add ((x4_1).toNat * 3)).off + 1, none⟩ = some (.int .i64 ((rd_T42 l0_2 x4_1).f1)) ∧ w'.cell? ⟨(ad262.add ((x4_1).toNat * 3)).block, (ad262.add ((x4_1).toNat * 3)).off + 2, none⟩ = some (.int .i64 ((rd_T42 l0_2 x4_1).f2))) (ds := [10]) #[false, false, false, false, false, false, false, false, false, false, false] (by kernel_rfl) rfl rfl ⟨(blk_cell BK261.out 0).trans rfl, (blk_cell BK261.out 1).trans rfl, (blk_cell BK261.out 2).trans rfl, (blk_cell BK261.out 3).trans rfl, (blk_cell BK261.out 4).trans rfl, (blk_cell BK259.out 0).trans rfl, (blk_cell BK259.out 1).trans rfl, (blk_cell BK259.out 2).trans rfl, (blk_cell BK259.out 3).trans rfl, (blk_cell BK259.out 4).trans rfl, ((HB.out.cell (World.block_lt_of_cell? w _ hw262_0)).trans hw262_0), ((HB.out.cell (World.block_lt_of_cell? w _ hw262_1)).trans hw262_1), ((HB.out.cell (World.block_lt_of_cell? w _ hw262_2)).trans hw262_2)⟩ (fun hHeld => ?_); refine with_tabW parcloselaw03_Ref.tab5 parcloselaw03_Ref.bits5 (fun HT_ HW_ => ?_)
      generalize wr.drew = w16 at HO_262002 BK259 BK260 BK261 HB hx262_0 hx262_1 hx262_2 hHeld ⊢
      refine pure_ (i := 0) (N := some 19) (v := ?_) (a' := ?_) #[true, false, false, false, false, false, false, false, false, false, false] rfl rfl (any_of HT_.out (by kernel_rfl)) (fun _ _ _ h => h) (Or.inl ⟨by rfl, ?_⟩) ?_ ?_
      rotate_left
      ·intro w'
       go_simp
       with_reducible rfl
      rotate_left
      ·simp only [Act.put, sB, i64_w, i32_w]
       rfl
      refine pure_ (i := 2) (N := some 21) (v := ?_) (a' := ?_) #[true, false, true, false, false, false, false, false, false, false, false] rfl rfl (any_of HT_.out (by kernel_rfl)) (fun _ _ _ h => h) (Or.inl ⟨by rfl, ?_⟩) ?_ ?_
      rotate_left
      ·intro w'
       go_simp
       with_reducible rfl
      rotate_left
      ·simp only [Act.put, sB, i64_w, i32_w]
       rfl
      refine pure_ (i := 4) (N := some 23) (v := ?_) (a' := ?_) #[true, false, true, false, true, false, false, false, false, false, false] rfl rfl (any_of HT_.out (by kernel_rfl)) (fun _ _ _ h => h) (Or.inl ⟨by rfl, ?_⟩) ?_ ?_
      rotate_left
      ·intro w'
       go_simp
       with_reducible rfl
      rotate_left
      ·simp only [Act.put, sB, i64_w, i32_w]
       rfl
      refine take_ (i := 1) (N := some 20) (v := ?_) (a' := ?_) #[true, true, true, false, true, false, false, false, false, false, false] rfl rfl (take_ofW HT_.out HW_.out (by kernel_rfl)) (fun _ _ _ h => h) (Or.inl ⟨by rfl, ?_⟩) hHeld ?_ ?_
      rotate_left
      ·rintro w' ⟨s0, s1, s2, s3, s4, s5, s6, s7, s8, s9, s10, s11, s12⟩
       go_simp
       with_reducible rfl
      rotate_left
      ·simp only [Act.put, sB, i64_w, i32_w]
       rfl
      refine take_ (i := 3) (N := some 22) (v := ?_) (a' := ?_) #[true, true, true, true, true, false, false, false, false, false, false] rfl rfl (take_ofW HT_.out HW_.out (by kernel_rfl)) (fun _ _ _ h => h) (Or.inl ⟨by rfl, ?_⟩) hHeld ?_ ?_
      rotate_left
      ·rintro w' ⟨s0, s1, s2, s3, s4, s5, s6, s7, s8, s9, s10, s11, s12⟩
       go_simp
       with_reducible rfl
      rotate_left
      ·simp only [Act.put, sB, i64_w, i32_w]
       rfl
      refine pure_ (i := 5) (N := some 24) (v := ?_) (a' := ?_) #[true, true, true, true, true, true, false, false, false, false, false] rfl rfl (any_of HT_.out (by kernel_rfl)) (fun _ _ _ h => h) (Or.inl ⟨by rfl, ?_⟩) ?_ ?_
      rotate_left
      ·intro w'
       go_simp
       with_reducible rfl
      rotate_left
      ·simp only [Act.put, sB, i64_w, i32_w]
       rfl
      refine take_ (i := 6) (N := some 25) (v := ?_) (a' := ?_) #[true, true, true, true, true, true, true, false, false, false, false] rfl rfl (take_ofW HT_.out HW_.out (by kernel_rfl)) (fun _ _ _ h => h) (Or.inl ⟨by rfl, ?_⟩) hHeld ?_ ?_
      rotate_left
      ·rintro w' ⟨s0, s1, s2, s3, s4, s5, s6, s7, s8, s9, s10, s11, s12⟩
       go_simp
       with_reducible rfl
      rotate_left
      ·simp only [Act.put, sB, i64_w, i32_w]
       rfl
      refine one_ (i := 7) (N := some 26) #[true, true, true, true, true, true, true, true, false, false, false] rfl rfl (one_of HT_.out (by kernel_rfl)) (by decide) (fun K hK => ?_)
      refine value_ (w1 := ?_) (v := ?_) (by rfl) rfl ?_ ?_
      rotate_left 2
      ·go_simp
       constructor
       ·rfl
       ·rfl
      refine hK.out _ _ ⟨(blk_cell (blk_alloc BK261.out _) 0).trans rfl, (blk_cell (blk_alloc BK261.out _) 1).trans rfl, (blk_cell (blk_alloc BK261.out _) 2).trans rfl, (blk_cell (blk_alloc BK261.out _) 3).trans rfl, (blk_cell (blk_alloc BK261.out _) 4).trans rfl, (blk_cell (blk_alloc BK259.out _) 0).trans rfl, (blk_cell (blk_alloc BK259.out _) 1).trans rfl, (blk_cell (blk_alloc BK259.out _) 2).trans rfl, (blk_cell (blk_alloc BK259.out _) 3).trans rfl, (blk_cell (blk_alloc BK259.out _) 4).trans rfl, (World.cell?_alloc_lt _ _ _ (World.block_lt_of_cell? _ _ (((HB.out.cell (World.block_lt_of_cell? w _ hw262_0)).trans hw262_0)))).trans (((HB.out.cell (World.block_lt_of_cell? w _ hw262_0)).trans hw262_0)), (World.cell?_alloc_lt _ _ _ (World.block_lt_of_cell? _ _ (((HB.out.cell (World.block_lt_of_cell? w _ hw262_1)).trans hw262_1)))).trans (((HB.out.cell (World.block_lt_of_cell? w _ hw262_1)).trans hw262_1)), (World.cell?_alloc_lt _ _ _ (World.block_lt_of_cell? _ _ (((HB.out.cell (World.block_lt_of_cell? w _ hw262_2)).trans hw262_2)))).trans (((HB.out.cell (World.block_lt_of_cell? w _ hw262_2)).trans hw262_2))⟩ (fun hHeld => ?_)
      clear hK K
      refine norm_ (a' := ?_) ?_ ?_
      rotate_left
      ·show Act.put _ (some 26) _ = _
       simp only [Act.put, sB, i64_w, i32_w]
       rfl
      refine one_ (i := 8) (N := some 27) #[true, true, true, true, true, true, true, true, true, false, false] rfl rfl (one_of HT_.out (by kernel_rfl)) (by decide) (fun K hK => ?_)
      refine Kd.R_append_step k77 (w0 := w) w.heap.size (by rfl) (.tmp 20) (.tmp 26) 22 77 (.agg #[(.int .i64 0), (.int .i64 0), (.int .i64 0)]) 24 rfl Try.underlying22 info77 rfl (by decide) (by omega) u262002 x262002_1 (⟨(rd_T42 l0_2 x4_1).f0, (rd_T42 l0_2 x4_1).f1, (rd_T42 l0_2 x4_1).f2⟩ : S77) [.int .i64 ((rd_T42 l0_2 x4_1).f0), .int .i64 ((rd_T42 l0_2 x4_1).f1), .int .i64 ((rd_T42 l0_2 x4_1).f2)] (fun _ => True) (fun _ => False) rfl rfl ?aP (fun _ hk => hk.elim) ?aF ?aO ?aB ?aS ?aL ?_
      (case aP => exact k77_mkM _ _ _ (⟨(rd_T42 l0_2 x4_1).f0, (rd_T42 l0_2 x4_1).f1, (rd_T42 l0_2 x4_1).f2⟩ : S77))
      (case aB => exact (by repeat (first | (with_reducible first | exact HB.out | apply wa | apply wn | apply wd | refine ws ?_ GE259.out | refine ws ?_ GE260.out | refine ws ?_ GE261.out) | exact HB.out)))
      (case aF => exact (fun _ _ => trivial))
      (case aO => exact (by (with_reducible repeat (first | apply Kd.R_alloc | apply Kd.R_drewN | apply Kd.R_drew)); exact HO_262002.out))
      (case aS => exact (below_size (by repeat (first | (with_reducible first | exact HB.out | apply wa | apply wn | apply wd | refine ws ?_ GE259.out | refine ws ?_ GE260.out | refine ws ?_ GE261.out) | exact HB.out))))
      (case aL => have := LMc12.out; omega)
      intro v264 w17 ho hb hg hat
      rw [← Ny263.out] at ho
      have n0_ := asd (blk_grown (g := gb259) (o := .cells #[.int .i64 a0_0, .int .i64 a0_1, .slice (some ad262) l0_2.length c0_2, .slice A0_3 l0_3.length c0_3, .slice A0_4 l0_4.length c0_4] 34 (0, 0)) (by (with_reducible repeat first | apply bn | apply bd | apply ba); exact BK259.out) hg (Kd.R_ne HO_262002.out BK259.out (by decide)))
      have n1_ := asd (blk_grown (g := gb260) (o := .cells #[.int .i64 0, .int .i64 0, .slice none 0 0, .slice none 0 0, .slice none 0 0] 26 (0, 0)) (by (with_reducible repeat first | apply bn | apply bd | apply ba); exact BK260.out) hg (Kd.R_ne HO_262002.out BK260.out (by decide)))
      have n2_ := asd (blk_grown (g := gb261) (o := .cells #[.int .i64 a0_0, .int .i64 a0_1, u262002, .slice none 0 0, .slice none 0 0] 26 (0, 0)) (by (with_reducible repeat first | apply bn | apply bd | apply ba); exact BK261.out) hg (Kd.R_ne HO_262002.out BK261.out (by decide)))
      have n3_ := asd (hb)
      have n4_ := asd (ho)
      clear BK259
      clear BK260
      clear BK261
      clear HB
      clear HO_262002
      have BK259 := n0_
      have BK260 := n1_
      have BK261 := n2_
      have HB := n3_
      have HO265 := n4_
      clear n0_ n1_ n2_ n3_ n4_
      clear ho hb hg hat
      obtain ⟨Ao18, co18, eo18⟩ := Kd.R_slice HO265.out
      (first | subst eo18 | (injection eo18 with f1_ f2_ f3_; have f4_ := f1_.symm; have f5_ := f3_.symm; clear f1_ f2_ f3_; subst f4_; subst f5_))
      refine hK.out _ _ ⟨(blk_cell BK261.out 0).trans rfl, (blk_cell BK261.out 1).trans rfl, (blk_cell BK261.out 2).trans rfl, (blk_cell BK261.out 3).trans rfl, (blk_cell BK261.out 4).trans rfl, (blk_cell BK259.out 0).trans rfl, (blk_cell BK259.out 1).trans rfl, (blk_cell BK259.out 2).trans rfl, (blk_cell BK259.out 3).trans rfl, (blk_cell BK259.out 4).trans rfl, ((HB.out.cell (World.block_lt_of_cell? w _ hw262_0)).trans hw262_0), ((HB.out.cell (World.block_lt_of_cell? w _ hw262_1)).trans hw262_1), ((HB.out.cell (World.block_lt_of_cell? w _ hw262_2)).trans hw262_2)⟩ (fun hHeld => ?_)
      clear hK K
      refine norm_ (a' := ?_) ?_ ?_
      rotate_left
      ·show Act.put _ (some 27) _ = _
       simp only [Act.put, sB, i64_w, i32_w]
       rfl
      refine pure_ (i := 9) (N := some 28) (v := ?_) (a' := ?_) #[true, true, true, true, true, true, true, true, true, true, false] rfl rfl (any_of HT_.out (by kernel_rfl)) (fun _ _ _ h => h) (Or.inl ⟨by rfl, ?_⟩) ?_ ?_
      rotate_left
      ·intro w'
       go_simp
       with_reducible rfl
      rotate_left
      ·simp only [Act.put, sB, i64_w, i32_w]
       rfl
      refine last_ (i := 10) (N := none) #[true, true, true, true, true, true, true, true, true, true, true] rfl rfl (one_of HT_.out (by kernel_rfl)) (by decide) (fun K hK => ?_)
      have hs19 : w17.cell? ⟨gb261, 2, none⟩ = some (u262002) := (blk_cell BK261.out 2).trans rfl
      have hfs19 := blk_frozen BK261.out 2
      have hns19_0 := NB259_261.out
      have hns19_1 := NB260_261.out
      have hms19_0 := NB261_259.out
      have hms19_1 := NB261_260.out
      refine skip_ (w1 := ?_) (by rfl) rfl ?_ ?_
      rotate_left
      ·go_simp
       rfl
      refine hK.out _ _ ?_
      clear hK K
      refine done_ (done_of HT_.out (by kernel_rfl)) ?_
      try go_wp2
      go_roundg k1
      case measure => have := HK1.out; omega
      case rel => exact ⟨(wrap64 (x4_1 + 1)), (y263), (.slice Ao18 y263.length co18), (by first | rfl | (simp; done) | (simp [*]; done)), H', ⟨by have := HK1.out; omega⟩, ⟨by (with_reducible repeat (first | apply Kd.R_alloc | apply Kd.R_drewN | apply Kd.R_drew)); exact Kd.R_mono (Kd.R_far (p := ⟨gb261, 2, none⟩) (Kd.R_types HO265.out BK261.out (by decide)) (fun _ hk => hk.2) (.slice Ao18 y263.length co18)) (fun _ hk => trivial)⟩, ⟨by (with_reducible repeat first | apply bn | apply bd | apply ba); refine blk_far ?_ NB259_261.out _; (with_reducible repeat first | apply bn | apply bd | apply ba); exact BK259.out⟩, ⟨by (with_reducible repeat first | apply bn | apply bd | apply ba); refine blk_far ?_ NB260_261.out _; (with_reducible repeat first | apply bn | apply bd | apply ba); exact BK260.out⟩, ⟨by (with_reducible repeat first | apply bn | apply bd | apply ba); refine blk_put (cs := #[.int .i64 a0_0, .int .i64 a0_1, u262002, .slice none 0 0, .slice none 0 0]) ?_ 2 _ rfl; (with_reducible repeat first | apply bn | apply bd | apply ba); exact BK261.out⟩, ⟨by repeat (first | (with_reducible first | exact HB.out | apply wa | apply wn | apply wd | refine ws ?_ GE259.out | refine ws ?_ GE260.out | refine ws ?_ GE261.out) | exact HB.out)⟩⟩
     ·rw [if_neg c12] at H
      exact absurd H (by simp)
    ·rw [if_neg c11] at H
     exact absurd H (by simp)
   ·rw [if_neg c10] at H
    have c10b0 : decide (x4_1 < (l0_2.length : Int)) = false := decide_eq_false c10
    clear c10
    have H' := asd H
    clear H
    have hnb20 := NB259_260.out
    have hnc20 := NB260_259.out
    have hnb21 := NB259_261.out
    have hnc21 := NB261_259.out
    have hcz22_0 : wr.cell? ⟨gb259, 0, none⟩ = some (.int .i64 a0_0) := (blk_cell BK259.out 0).trans rfl
    have hcz22_1 : wr.cell? ⟨gb259, 1, none⟩ = some (.int .i64 a0_1) := (blk_cell BK259.out 1).trans rfl
    have hcz22_2 : wr.cell? ⟨gb259, 2, none⟩ = some (.slice A0_2 l0_2.length c0_2) := (blk_cell BK259.out 2).trans rfl
    have hcz22_3 : wr.cell? ⟨gb259, 3, none⟩ = some (.slice A0_3 l0_3.length c0_3) := (blk_cell BK259.out 3).trans rfl
    have hcz22_4 : wr.cell? ⟨gb259, 4, none⟩ = some (.slice A0_4 l0_4.length c0_4) := (blk_cell BK259.out 4).trans rfl
    have hfz22_0 := blk_frozen BK259.out 0
    have hfz22_1 := blk_frozen BK259.out 1
    have hfz22_2 := blk_frozen BK259.out 2
    have hfz22_3 := blk_frozen BK259.out 3
    have hfz22_4 := blk_frozen BK259.out 4
    go_wp2
    go_loopg [5] k1 (fun kq v5 w' => ∃ (x5_2 : Int) (x262003_2 : List (S61)) (u262003 : Value), v5 = .int .i64 x5_2 ∧ Aside0 (parcloselaw03_Ref.l1 kq x5_2 a0_0 a0_1 l0_2 l0_3 l0_4 a0_0 a0_1 x262002_1 x262003_2 = some (r1, r2, r3, r4, r5)) ∧ Aside0 (kq ≤ k1) ∧ Aside0 (Kd.R k77 77 w' w.heap.size (fun _ => True) u262002 x262002_1) ∧ Aside0 (Kd.S k61 61 w' w.heap.size (fun _ => True) u262003 x262003_2) ∧ Aside0 (w'.heap[gb259]? = some (.cells #[.int .i64 a0_0, .int .i64 a0_1, (.slice A0_2 l0_2.length c0_2), (.slice A0_3 l0_3.length c0_3), (.slice A0_4 l0_4.length c0_4)] 34 (0, 0))) ∧ Aside0 (w'.heap[gb260]? = some (.cells #[.int .i64 0, .int .i64 0, (.slice none 0 0), (.slice none 0 0), (.slice none 0 0)] 26 (0, 0))) ∧ Aside0 (w'.heap[gb261]? = some (.cells #[.int .i64 a0_0, .int .i64 a0_1, u262002, u262003, (.slice none 0 0)] 26 (0, 0))) ∧ Aside0 (Below w.heap.size w w'))
    case atStart => exact ⟨(0), (([] : List (S61))), (.slice none 0 0), (by first | rfl | (simp; done) | (simp [*]; done)), H', ⟨Nat.le_refl _⟩, ⟨by (with_reducible repeat (first | apply Kd.R_alloc | apply Kd.R_drewN | apply Kd.R_drew)); exact HO_262002.out⟩, ⟨by first | exact Kd.S_nil _ _ _ _ _ | exact Kd.N_nil _ _ _ _ _ | exact Kd.V_nil _ _ _ _ _ | exact Kd.Q_nil _ _ _ _ _ | exact Kd.R_nil _ _ _ _ _⟩, ⟨by (with_reducible repeat first | apply bn | apply bd | apply ba); exact BK259.out⟩, ⟨by (with_reducible repeat first | apply bn | apply bd | apply ba); exact BK260.out⟩, ⟨by (with_reducible repeat first | apply bn | apply bd | apply ba); exact BK261.out⟩, ⟨by repeat (first | (with_reducible first | exact HB.out | apply wa | apply wn | apply wd | refine ws ?_ GE259.out | refine ws ?_ GE260.out | refine ws ?_ GE261.out) | exact HB.out)⟩⟩
    case round =>
     clear H'
     try clear c1
     try clear c2
     try clear p2
     try clear q2
     try clear hx2
     try clear c4
     try clear p6
     try clear c7
     try clear c8
     try clear c10
     try clear c10b0
     try clear c11
     try clear c11b0
     try clear c12
     try clear c13
     try clear c14
     try clear c20
     try clear c21
     try clear hcz15_0
     try clear hcz15_1
     try clear hcz15_2
     try clear hcz15_3
     try clear hcz15_4
     try clear hcz22_0
     try clear hcz22_1
     try clear hcz22_2
     try clear hcz22_3
     try clear hcz22_4
     try clear hcz5_0
     try clear hcz5_1
     try clear hcz5_2
     try clear hcz5_3
     try clear hcz5_4
     try clear hcz9_0
     try clear hcz9_1
     try clear hcz9_2
     try clear hcz9_3
     try clear hcz9_4
     try clear hfz15_0
     try clear hfz15_1
     try clear hfz15_2
     try clear hfz15_3
     try clear hfz15_4
     try clear hfz22_0
     try clear hfz22_1
     try clear hfz22_2
     try clear hfz22_3
     try clear hfz22_4
     try clear hfz5_0
     try clear hfz5_1
     try clear hfz5_2
     try clear hfz5_3
     try clear hfz5_4
     try clear hfz9_0
     try clear hfz9_1
     try clear hfz9_2
     try clear hfz9_3
     try clear hfz9_4
     try clear hx262_0
     try clear hx262_1
     try clear hx262_2
     try clear p2
     try clear p262
     try clear q262
     obtain ⟨x5_2, x262003_2, u262003, rfl, HA, HK2, HO_262002, HO_262003, BK259, BK260, BK261, HB⟩ := hrel
     cases gk with
     | zero => exact absurd HA.out (by simp [parcloselaw03_Ref.l1])
     | succ k2 =>
      have H := HA.out
      clear HA
      simp only [parcloselaw03_Ref.l1] at H
      by_cases c23 : x5_2 < (l0_3.length : Int)
      ·rw [if_pos c23] at H
       have c23b0 : decide (x5_2 < (l0_3.length : Int)) = true := decide_eq_true c23
       clear c23
       by_cases c24 : 0 ≤ x5_2
       ·rw [if_pos c24] at H
        have c24b0 : decide (0 ≤ x5_2) = true := decide_eq_true c24
        clear c24
        replace H := Option.bind_eq_some_iff.mp H
        obtain ⟨⟨t267, t270, t273, t276, t277, t278⟩, A250, H⟩ := H
        replace H : (if x262003_2.length < 1759218604441 then (parcloselaw03_Ref.l1 k2 (wrap64 (x5_2 + 1)) a0_0 a0_1 l0_2 l0_3 l0_4 a0_0 a0_1 x262002_1 (x262003_2 ++ [(⟨t267, t270, t273, (⟨t276, t277, t278⟩ : S47)⟩ : S61)])) else (none)) = some (r1, r2, r3, r4, r5) := H
        have A25 := asd A250
        clear A250
        by_cases c26 : x262003_2.length < 1759218604441
        ·rw [if_pos c26] at H
         have LMc26 := asd c26
         clear c26
         obtain ⟨y279, hy279⟩ : ∃ y_ : List (S61), y_ = (x262003_2 ++ [(⟨t267, t270, t273, (⟨t276, t277, t278⟩ : S47)⟩ : S61)]) := ⟨_, rfl⟩
         replace H : (parcloselaw03_Ref.l1 k2 (wrap64 (x5_2 + 1)) a0_0 a0_1 l0_2 l0_3 l0_4 a0_0 a0_1 x262002_1 y279) = some (r1, r2, r3, r4, r5) := by first | (rw [hy279]; with_reducible exact H) | (have H2_ := (Option.bind_some _ _).symm.trans H; rw [hy279]; with_reducible exact H2_) | (have H2_ := (Option.bind_some _ _).symm.trans H; with_reducible exact H2_) | with_reducible exact H | (rw [hy279]; exact H) | exact H
         have Ny279 := asd hy279
         clear hy279
         have H' := asd H
         clear H
         have hnb27 := NB259_260.out
         have hnc27 := NB260_259.out
         have hnb28 := NB259_261.out
         have hnc28 := NB261_259.out
         have hcz29_0 : wr.cell? ⟨gb259, 0, none⟩ = some (.int .i64 a0_0) := (blk_cell BK259.out 0).trans rfl
         have hcz29_1 : wr.cell? ⟨gb259, 1, none⟩ = some (.int .i64 a0_1) := (blk_cell BK259.out 1).trans rfl
         have hcz29_2 : wr.cell? ⟨gb259, 2, none⟩ = some (.slice A0_2 l0_2.length c0_2) := (blk_cell BK259.out 2).trans rfl
         have hcz29_3 : wr.cell? ⟨gb259, 3, none⟩ = some (.slice A0_3 l0_3.length c0_3) := (blk_cell BK259.out 3).trans rfl
         have hcz29_4 : wr.cell? ⟨gb259, 4, none⟩ = some (.slice A0_4 l0_4.length c0_4) := (blk_cell BK259.out 4).trans rfl
         have hfz29_0 := blk_frozen BK259.out 0
         have hfz29_1 := blk_frozen BK259.out 1
         have hfz29_2 := blk_frozen BK259.out 2
         have hfz29_3 := blk_frozen BK259.out 3
         have hfz29_4 := blk_frozen BK259.out 4
         try go_wp2
         have n0_ := asd (Kd.R_drew HO_262002.out)
         have n1_ := asd (Kd.S_drew HO_262003.out)
         have n2_ := asd (blk_drew BK259.out)
         have n3_ := asd (blk_drew BK260.out)
         have n4_ := asd (blk_drew BK261.out)
         have n5_ := asd (below_drew1 HB.out)
         clear HO_262002
         clear HO_262003
         clear BK259
         clear BK260
         clear BK261
         clear HB
         have HO_262002 := n0_
         have HO_262003 := n1_
         have BK259 := n2_
         have BK260 := n3_
         have BK261 := n4_
         have HB := n5_
         clear n0_ n1_ n2_ n3_ n4_ n5_
         have p266 : 0 ≤ (x5_2 : Int) := of_decide_eq_true (by assumption)
         have q266 : x5_2 < (l0_3.length : Int) := of_decide_eq_true (by assumption)
         obtain ⟨ad266, A266_0, c266_0, A266_1, c266_1, A266_2, c266_2, e266, hx266_0, hx266_1, hx266_2, hx266_3, hx266_4, hx266_5, hl266_0, hi266_0, hl266_1, hi266_1, hl266_2, hi266_2⟩ := at_T49 HR0_3.out x5_2 p266 q266
         have hw266_5 := hx266_5
         have hw266_4 := hx266_4
         have hw266_3 := hx266_3
         have hw266_2 := hx266_2
         have hw266_1 := hx266_1
         have hw266_0 := hx266_0
         cases e266
         replace hx266_0 := (HB.out.cell (World.block_lt_of_cell? w _ hx266_0)).trans hx266_0
         replace hx266_1 := (HB.out.cell (World.block_lt_of_cell? w _ hx266_1)).trans hx266_1
         replace hx266_2 := (HB.out.cell (World.block_lt_of_cell? w _ hx266_2)).trans hx266_2
         replace hx266_3 := (HB.out.cell (World.block_lt_of_cell? w _ hx266_3)).trans hx266_3
         replace hx266_4 := (HB.out.cell (World.block_lt_of_cell? w _ hx266_4)).trans hx266_4
         replace hx266_5 := (HB.out.cell (World.block_lt_of_cell? w _ hx266_5)).trans hx266_5
         have HR266_0 := asd hi266_0
         have HC266_0 := asd hl266_0
         clear hi266_0 hl266_0
         have HR266_1 := asd hi266_1
         have HC266_1 := asd hl266_1
         clear hi266_1 hl266_1
         have HR266_2 := asd hi266_2
         have HC266_2 := asd hl266_2
         clear hi266_2 hl266_2
         replace p266 := eq_true p266
         replace q266 := eq_true q266
         refine start_ (n := 12) (S := fun w' => w'.cell? ⟨gb261, 0, none⟩ = some (.int .i64 a0_0) ∧ w'.cell? ⟨gb261, 1, none⟩ = some (.int .i64 a0_1) ∧ w'.cell? ⟨gb261, 2, none⟩ = some (u262002) ∧ w'.cell? ⟨gb261, 3, none⟩ = some (u262003) ∧ w'.cell? ⟨gb261, 4, none⟩ = some (.slice none 0 0) ∧ w'.cell? ⟨gb259, 0, none⟩ = some (.int .i64 a0_0) ∧ w'.cell? ⟨gb259, 1, none⟩ = some (.int .i64 a0_1) ∧ w'.cell? ⟨gb259, 2, none⟩ = some (.slice A0_2 l0_2.length c0_2) ∧ w'.cell? ⟨gb259, 3, none⟩ = some (.slice (some ad266) l0_3.length c0_3) ∧ w'.cell? ⟨gb259, 4, none⟩ = some (.slice A0_4 l0_4.length c0_4) ∧ w'.cell? (ad266.add ((x5_2).toNat * 6)) = some (.slice A266_0 ((rd_T49 l0_3 x5_2).f0).length c266_0) ∧ w'.cell? ⟨(ad266.add ((x5_2).toNat * 6)).block, (ad266.add ((x5_2).toNat * 6)).off + 1, none⟩ = some (.slice A266_1 ((rd_T49 l0_3 x5_2).f1).length c266_1) ∧ w'.cell? ⟨(ad266.add ((x5_2).toNat * 6)).block, (ad266.add ((x5_2).toNat * 6)).off + 2, none⟩ = some (.slice A266_2 ((rd_T49 l0_3 x5_2).f2).length c266_2) ∧ w'.cell? ⟨(ad266.add ((x5_2).toNat * 6)).block, (ad266.add ((x5_2).toNat * 6)).off + 3, none⟩ = some (.int .u8 ((rd_T49 l0_3 x5_2).f3.f0)) ∧ w'.cell? ⟨(ad266.add ((x5_2).toNat * 6)).block, (ad266.add ((x5_2).toNat * 6)).off + 4, none⟩ = some (.int .u8 ((rd_T49 l0_3 x5_2).f3.f1)) ∧ w'.cell? ⟨(ad266.add ((x5_2).toNat * 6)).block, (ad266.add ((x5_2).toNat * 6)).off + 5, none⟩ = some (.int .u8 ((rd_T49 l0_3 x5_2).f3.f2))) (ds := [11]) #[false, false, false, false, false, false, false, false, false, false, false, false] (by kernel_rfl) rfl rfl ⟨(blk_cell BK261.out 0).trans rfl, (blk_cell BK261.out 1).trans rfl, (blk_cell BK261.out 2).trans rfl, (blk_cell BK261.out 3).trans rfl, (blk_cell BK261.out 4).trans rfl, (blk_cell BK259.out 0).trans rfl, (blk_cell BK259.out 1).trans rfl, (blk_cell BK259.out 2).trans rfl, (blk_cell BK259.out 3).trans rfl, (blk_cell BK259.out 4).trans rfl, ((HB.out.cell (World.block_lt_of_cell? w _ hw266_0)).trans hw266_0), ((HB.out.cell (World.block_lt_of_cell? w _ hw266_1)).trans hw266_1), ((HB.out.cell (World.block_lt_of_cell? w _ hw266_2)).trans hw266_2), ((HB.out.cell (World.block_lt_of_cell? w _ hw266_3)).trans hw266_3), ((HB.out.cell (World.block_lt_of_cell? w _ hw266_4)).trans hw266_4), ((HB.out.cell (World.block_lt_of_cell? w _ hw266_5)).trans hw266_5)⟩ (fun hHeld => ?_); refine with_tabW parcloselaw03_Ref.tab9 parcloselaw03_Ref.bits9 (fun HT_ HW_ => ?_)
         generalize wr.drew = w30 at HO_262002 HO_262003 BK259 BK260 BK261 HB HR266_0 HR266_1 HR266_2 hx266_0 hx266_1 hx266_2 hx266_3 hx266_4 hx266_5 hHeld ⊢
         refine pure_ (i := 0) (N := some 36) (v := ?_) (a' := ?_) #[true, false, false, false, false, false, false, false, false, false, false, false] rfl rfl (any_of HT_.out (by kernel_rfl)) (fun _ _ _ h => h) (Or.inl ⟨by rfl, ?_⟩) ?_ ?_
         rotate_left
         ·intro w'
          go_simp
          with_reducible rfl
         rotate_left
         ·simp only [Act.put, sB, i64_w, i32_w]
          rfl
         refine pure_ (i := 2) (N := some 38) (v := ?_) (a' := ?_) #[true, false, true, false, false, false, false, false, false, false, false, false] rfl rfl (any_of HT_.out (by kernel_rfl)) (fun _ _ _ h => h) (Or.inl ⟨by rfl, ?_⟩) ?_ ?_
         rotate_left
         ·intro w'
          go_simp
          with_reducible rfl
         rotate_left
         ·simp only [Act.put, sB, i64_w, i32_w]
          rfl
         refine pure_ (i := 4) (N := some 40) (v := ?_) (a' := ?_) #[true, false, true, false, true, false, false, false, false, false, false, false] rfl rfl (any_of HT_.out (by kernel_rfl)) (fun _ _ _ h => h) (Or.inl ⟨by rfl, ?_⟩) ?_ ?_
         rotate_left
         ·intro w'
          go_simp
          with_reducible rfl
         rotate_left
         ·simp only [Act.put, sB, i64_w, i32_w]
          rfl
         refine take_ (i := 1) (N := some 37) (v := ?_) (a' := ?_) #[true, true, true, false, true, false, false, false, false, false, false, false] rfl rfl (take_ofW HT_.out HW_.out (by kernel_rfl)) (fun _ _ _ h => h) (Or.inl ⟨by rfl, ?_⟩) hHeld ?_ ?_
         rotate_left
         ·rintro w' ⟨s0, s1, s2, s3, s4, s5, s6, s7, s8, s9, s10, s11, s12, s13, s14, s15⟩
          go_simp
          with_reducible rfl
         rotate_left
         ·simp only [Act.put, sB, i64_w, i32_w]
          rfl
         refine take_ (i := 3) (N := some 39) (v := ?_) (a' := ?_) #[true, true, true, true, true, false, false, false, false, false, false, false] rfl rfl (take_ofW HT_.out HW_.out (by kernel_rfl)) (fun _ _ _ h => h) (Or.inl ⟨by rfl, ?_⟩) hHeld ?_ ?_
         rotate_left
         ·rintro w' ⟨s0, s1, s2, s3, s4, s5, s6, s7, s8, s9, s10, s11, s12, s13, s14, s15⟩
          go_simp
          with_reducible rfl
         rotate_left
         ·simp only [Act.put, sB, i64_w, i32_w]
          rfl
         refine pure_ (i := 5) (N := some 41) (v := ?_) (a' := ?_) #[true, true, true, true, true, true, false, false, false, false, false, false] rfl rfl (any_of HT_.out (by kernel_rfl)) (fun _ _ _ h => h) (Or.inl ⟨by rfl, ?_⟩) ?_ ?_
         rotate_left
         ·intro w'
          go_simp
          with_reducible rfl
         rotate_left
         ·simp only [Act.put, sB, i64_w, i32_w]
          rfl
         refine take_ (i := 6) (N := some 42) (v := ?_) (a' := ?_) #[true, true, true, true, true, true, true, false, false, false, false, false] rfl rfl (take_ofW HT_.out HW_.out (by kernel_rfl)) (fun _ _ _ h => h) (Or.inl ⟨by rfl, ?_⟩) hHeld ?_ ?_
         rotate_left
         ·rintro w' ⟨s0, s1, s2, s3, s4, s5, s6, s7, s8, s9, s10, s11, s12, s13, s14, s15⟩
          go_simp
          with_reducible rfl
         rotate_left
         ·simp only [Act.put, sB, i64_w, i32_w]
          rfl
         refine one_ (i := 7) (N := some 43) #[true, true, true, true, true, true, true, true, false, false, false, false] rfl rfl (one_of HT_.out (by kernel_rfl)) (by decide) (fun K hK => ?_)
         refine goes_ Try.func56 (by kernel_rfl) rfl #[.agg #[.slice A266_0 ((rd_T49 l0_3 x5_2).f0).length c266_0, .slice A266_1 ((rd_T49 l0_3 x5_2).f1).length c266_1, .slice A266_2 ((rd_T49 l0_3 x5_2).f2).length c266_2, .int .u8 ((rd_T49 l0_3 x5_2).f3.f0), .int .u8 ((rd_T49 l0_3 x5_2).f3.f1), .int .u8 ((rd_T49 l0_3 x5_2).f3.f2)]] (by rfl) rfl rfl (by (try simp only [List.map_toArray, List.map_cons, List.map_nil]); first | done | rfl | (simp only [List.length_drop, List.length_take]; rfl)) ?_
         with_reducible refine (parcloselaw03_RefPart.calls k2 _ _ ((rd_T49 l0_3 x5_2).f0) _ _ ((rd_T49 l0_3 x5_2).f1) _ _ ((rd_T49 l0_3 x5_2).f2) ((rd_T49 l0_3 x5_2).f3.f0) ((rd_T49 l0_3 x5_2).f3.f1) ((rd_T49 l0_3 x5_2).f3.f2) t267 t270 t273 t276 t277 t278 _ ?side1 ?side2 ?side3 ?side4 ?side5 ?side6 A25.out).mono ?_
         (case side1 => repeat (first | exact (Kd.C_below HR266_0.out HB.out) | (with_reducible refine Kd.C_alloc ?_ _) | (with_reducible refine Kd.C_drewN ?_ _) | (with_reducible refine Kd.C_drew ?_)))
         (case side2 => exact HC266_0.out)
         (case side3 => repeat (first | exact (Kd.C_below HR266_1.out HB.out) | (with_reducible refine Kd.C_alloc ?_ _) | (with_reducible refine Kd.C_drewN ?_ _) | (with_reducible refine Kd.C_drew ?_)))
         (case side4 => exact HC266_1.out)
         (case side5 => repeat (first | exact (Kd.C_below HR266_2.out HB.out) | (with_reducible refine Kd.C_alloc ?_ _) | (with_reducible refine Kd.C_drewN ?_ _) | (with_reducible refine Kd.C_drew ?_)))
         (case side6 => exact HC266_2.out)
         rintro e w31 ⟨v268, v271, v274, rfl, ho0, ho1, ho2, hb⟩
         refine ⟨_, rfl, ?_⟩
         have n0_ := asd (Kd.R_below (by (with_reducible repeat (first | apply Kd.R_alloc | apply Kd.R_drewN | apply Kd.R_drew)); exact HO_262002.out) hb)
         have n1_ := asd (Kd.S_mono (Kd.S_told (Kd.S_told (Kd.S_told (Kd.S_old (by (with_reducible repeat (first | apply Kd.S_alloc | apply Kd.S_drewN | apply Kd.S_drew)); exact HO_262003.out) hb) (Kd.R_base ho0)) (Kd.R_base ho1)) (Kd.R_base ho2)) (fun _ h_ => h_.1))
         have n2_ := asd (Kd.R_lower ho0 (below_size (by repeat (first | (with_reducible first | exact HB.out | apply wa | apply wn | apply wd | refine ws ?_ GE259.out | refine ws ?_ GE260.out | refine ws ?_ GE261.out) | exact HB.out))))
         have n3_ := asd (Kd.R_lower ho1 (below_size (by repeat (first | (with_reducible first | exact HB.out | apply wa | apply wn | apply wd | refine ws ?_ GE259.out | refine ws ?_ GE260.out | refine ws ?_ GE261.out) | exact HB.out))))
         have n4_ := asd (Kd.R_lower ho2 (below_size (by repeat (first | (with_reducible first | exact HB.out | apply wa | apply wn | apply wd | refine ws ?_ GE259.out | refine ws ?_ GE260.out | refine ws ?_ GE261.out) | exact HB.out))))
         have n5_ := asd (blk_below (g := gb259) (o := .cells #[.int .i64 a0_0, .int .i64 a0_1, .slice A0_2 l0_2.length c0_2, .slice (some ad266) l0_3.length c0_3, .slice A0_4 l0_4.length c0_4] 34 (0, 0)) (by (with_reducible repeat first | apply bn | apply bd | apply ba); exact BK259.out) hb)
         have n6_ := asd (blk_below (g := gb260) (o := .cells #[.int .i64 0, .int .i64 0, .slice none 0 0, .slice none 0 0, .slice none 0 0] 26 (0, 0)) (by (with_reducible repeat first | apply bn | apply bd | apply ba); exact BK260.out) hb)
         have n7_ := asd (blk_below (g := gb261) (o := .cells #[.int .i64 a0_0, .int .i64 a0_1, u262002, u262003, .slice none 0 0] 26 (0, 0)) (by (with_reducible repeat first | apply bn | apply bd | apply ba); exact BK261.out) hb)
         have n8_ := asd (below_step (by repeat (first | (with_reducible first | exact HB.out | apply wa | apply wn | apply wd | refine ws ?_ GE259.out | refine ws ?_ GE260.out | refine ws ?_ GE261.out) | exact HB.out)) hb)
         clear HO_262002
         clear HO_262003
         clear BK259
         clear BK260
         clear BK261
         clear HB
         have HO_262002 := n0_
         have HO_262003 := n1_
         have HO269 := n2_
         have HO272 := n3_
         have HO275 := n4_
         have BK259 := n5_
         have BK260 := n6_
         have BK261 := n7_
         have HB := n8_
         clear n0_ n1_ n2_ n3_ n4_ n5_ n6_ n7_ n8_
         (try clear hb)
         (try clear hb2)
         (try clear hk)
         (try clear hi)
         (try clear ho0)
         (try clear ho1)
         (try clear ho2)
         obtain ⟨Ao33, co33, eo33⟩ := Kd.R_slice HO269.out
         (first | subst eo33 | (injection eo33 with f1_ f2_ f3_; have f4_ := f1_.symm; have f5_ := f3_.symm; clear f1_ f2_ f3_; subst f4_; subst f5_))
         obtain ⟨Ao34, co34, eo34⟩ := Kd.R_slice HO272.out
         (first | subst eo34 | (injection eo34 with f1_ f2_ f3_; have f4_ := f1_.symm; have f5_ := f3_.symm; clear f1_ f2_ f3_; subst f4_; subst f5_))
         obtain ⟨Ao35, co35, eo35⟩ := Kd.R_slice HO275.out
         (first | subst eo35 | (injection eo35 with f1_ f2_ f3_; have f4_ := f1_.symm; have f5_ := f3_.symm; clear f1_ f2_ f3_; subst f4_; subst f5_))
         refine hK.out _ _ ⟨(blk_cell BK261.out 0).trans rfl, (blk_cell BK261.out 1).trans rfl, (blk_cell BK261.out 2).trans rfl, (blk_cell BK261.out 3).trans rfl, (blk_cell BK261.out 4).trans rfl, (blk_cell BK259.out 0).trans rfl, (blk_cell BK259.out 1).trans rfl, (blk_cell BK259.out 2).trans rfl, (blk_cell BK259.out 3).trans rfl, (blk_cell BK259.out 4).trans rfl, ((HB.out.cell (World.block_lt_of_cell? w _ hw266_0)).trans hw266_0), ((HB.out.cell (World.block_lt_of_cell? w _ hw266_1)).trans hw266_1), ((HB.out.cell (World.block_lt_of_cell? w _ hw266_2)).trans hw266_2), ((HB.out.cell (World.block_lt_of_cell? w _ hw266_3)).trans hw266_3), ((HB.out.cell (World.block_lt_of_cell? w _ hw266_4)).trans hw266_4), ((HB.out.cell (World.block_lt_of_cell? w _ hw266_5)).trans hw266_5)⟩ (fun hHeld => ?_)
         clear hK K
         refine norm_ (a' := ?_) ?_ ?_
         rotate_left
         ·show Act.put _ (some 43) _ = _
          simp only [Act.put, sB, i64_w, i32_w]
          rfl
         refine one_ (i := 8) (N := some 44) #[true, true, true, true, true, true, true, true, true, false, false, false] rfl rfl (one_of HT_.out (by kernel_rfl)) (by decide) (fun K hK => ?_)
         refine value_ (w1 := ?_) (v := ?_) (by rfl) rfl ?_ ?_
         rotate_left 2
         ·go_simp
          constructor
          ·rfl
          ·rfl
         refine hK.out _ _ ⟨(blk_cell (blk_alloc BK261.out _) 0).trans rfl, (blk_cell (blk_alloc BK261.out _) 1).trans rfl, (blk_cell (blk_alloc BK261.out _) 2).trans rfl, (blk_cell (blk_alloc BK261.out _) 3).trans rfl, (blk_cell (blk_alloc BK261.out _) 4).trans rfl, (blk_cell (blk_alloc BK259.out _) 0).trans rfl, (blk_cell (blk_alloc BK259.out _) 1).trans rfl, (blk_cell (blk_alloc BK259.out _) 2).trans rfl, (blk_cell (blk_alloc BK259.out _) 3).trans rfl, (blk_cell (blk_alloc BK259.out _) 4).trans rfl, (World.cell?_alloc_lt _ _ _ (World.block_lt_of_cell? _ _ (((HB.out.cell (World.block_lt_of_cell? w _ hw266_0)).trans hw266_0)))).trans (((HB.out.cell (World.block_lt_of_cell? w _ hw266_0)).trans hw266_0)), (World.cell?_alloc_lt _ _ _ (World.block_lt_of_cell? _ _ (((HB.out.cell (World.block_lt_of_cell? w _ hw266_1)).trans hw266_1)))).trans (((HB.out.cell (World.block_lt_of_cell? w _ hw266_1)).trans hw266_1)), (World.cell?_alloc_lt _ _ _ (World.block_lt_of_cell? _ _ (((HB.out.cell (World.block_lt_of_cell? w _ hw266_2)).trans hw266_2)))).trans (((HB.out.cell (World.block_lt_of_cell? w _ hw266_2)).trans hw266_2)), (World.cell?_alloc_lt _ _ _ (World.block_lt_of_cell? _ _ (((HB.out.cell (World.block_lt_of_cell? w _ hw266_3)).trans hw266_3)))).trans (((HB.out.cell (World.block_lt_of_cell? w _ hw266_3)).trans hw266_3)), (World.cell?_alloc_lt _ _ _ (World.block_lt_of_cell? _ _ (((HB.out.cell (World.block_lt_of_cell? w _ hw266_4)).trans hw266_4)))).trans (((HB.out.cell (World.block_lt_of_cell? w _ hw266_4)).trans hw266_4)), (World.cell?_alloc_lt _ _ _ (World.block_lt_of_cell? _ _ (((HB.out.cell (World.block_lt_of_cell? w _ hw266_5)).trans hw266_5)))).trans (((HB.out.cell (World.block_lt_of_cell? w _ hw266_5)).trans hw266_5))⟩ (fun hHeld => ?_)
         clear hK K
         refine norm_ (a' := ?_) ?_ ?_
         rotate_left
         ·show Act.put _ (some 44) _ = _
          simp only [Act.put, sB, i64_w, i32_w]
          rfl
         refine one_ (i := 9) (N := some 45) #[true, true, true, true, true, true, true, true, true, true, false, false] rfl rfl (one_of HT_.out (by kernel_rfl)) (by decide) (fun K hK => ?_)
         refine Kd.S_append_step k61 (w0 := w) w.heap.size (by rfl) (.tmp 37) (.tmp 44) 23 61 (.agg #[(.slice none 0 0), (.slice none 0 0), (.slice none 0 0), (.int .u8 0), (.int .u8 0), (.int .u8 0)]) 80 rfl Try.underlying23 info61 rfl (by decide) (by omega) u262003 x262003_2 (⟨t267, t270, t273, (⟨t276, t277, t278⟩ : S47)⟩ : S61) [.slice Ao33 t267.length co33, .slice Ao34 t270.length co34, .slice Ao35 t273.length co35, .int .u8 t276, .int .u8 t277, .int .u8 t278] (fun _ => True) (fun k_ => some k_ = (.slice Ao33 t267.length co33 : Value).ownBlock ∨ some k_ = (.slice Ao34 t270.length co34 : Value).ownBlock ∨ some k_ = (.slice Ao35 t273.length co35 : Value).ownBlock) rfl rfl ?aP (fun k_ hk_ => hk_.elim (fun h_ => ((Kd.R_mono (ok' := fun k_ => ((fun _ => True)) k_ ∧ some k_ ≠ (u262003 : Value).ownBlock) (Kd.R_apart' (HO269.out) (Kd.S_typed HO_262003.out) (by decide)) (fun k_ hk => ⟨trivial, hk.2⟩))).1 k_ h_.symm) (fun h_ => h_.elim (fun h_ => ((Kd.R_mono (ok' := fun k_ => ((fun _ => True)) k_ ∧ some k_ ≠ (u262003 : Value).ownBlock) (Kd.R_apart' (HO272.out) (Kd.S_typed HO_262003.out) (by decide)) (fun k_ hk => ⟨trivial, hk.2⟩))).1 k_ h_.symm) (fun h_ => ((Kd.R_mono (ok' := fun k_ => ((fun _ => True)) k_ ∧ some k_ ≠ (u262003 : Value).ownBlock) (Kd.R_apart' (HO275.out) (Kd.S_typed HO_262003.out) (by decide)) (fun k_ hk => ⟨trivial, hk.2⟩))).1 k_ h_.symm))) ?aF ?aO ?aB ?aS ?aL ?_
         (case aP => exact k61_mkM _ _ _ (⟨t267, t270, t273, (⟨t276, t277, t278⟩ : S47)⟩ : S61) (Kd.R_mono (Kd.R_tight rfl (Kd.R_mono (ok' := fun k_ => ((fun _ => True)) k_ ∧ some k_ ≠ (u262003 : Value).ownBlock) (Kd.R_apart' (HO269.out) (Kd.S_typed HO_262003.out) (by decide)) (fun k_ hk => ⟨trivial, hk.2⟩))) (fun _ h_ => Or.inl h_)) (Kd.R_mono (Kd.R_tight rfl (Kd.R_mono (ok' := fun k_ => ((fun _ => True)) k_ ∧ some k_ ≠ (u262003 : Value).ownBlock) (Kd.R_apart' (HO272.out) (Kd.S_typed HO_262003.out) (by decide)) (fun k_ hk => ⟨trivial, hk.2⟩))) (fun _ h_ => Or.inr (Or.inl h_))) (Kd.R_mono (Kd.R_tight rfl (Kd.R_mono (ok' := fun k_ => ((fun _ => True)) k_ ∧ some k_ ≠ (u262003 : Value).ownBlock) (Kd.R_apart' (HO275.out) (Kd.S_typed HO_262003.out) (by decide)) (fun k_ hk => ⟨trivial, hk.2⟩))) (fun _ h_ => Or.inr (Or.inr (h_)))))
         (case aB => exact (by repeat (first | (with_reducible first | exact HB.out | apply wa | apply wn | apply wd | refine ws ?_ GE259.out | refine ws ?_ GE260.out | refine ws ?_ GE261.out) | exact HB.out)))
         (case aF => exact (fun _ _ => trivial))
         (case aO => exact (by (with_reducible repeat (first | apply Kd.S_alloc | apply Kd.S_drewN | apply Kd.S_drew)); exact Kd.S_mono HO_262003.out (fun k_ hk => ⟨trivial, fun e_ => e_.elim (fun h_ => hk.1.1.2 h_) (fun h_ => h_.elim (fun h_ => hk.1.2 h_) (fun h_ => hk.2 h_))⟩)))
         (case aS => exact (below_size (by repeat (first | (with_reducible first | exact HB.out | apply wa | apply wn | apply wd | refine ws ?_ GE259.out | refine ws ?_ GE260.out | refine ws ?_ GE261.out) | exact HB.out))))
         (case aL => have := LMc26.out; omega)
         intro v280 w32 ho hb hg hat
         rw [← Ny279.out] at ho
         have n0_ := asd (Kd.R_over' (by (with_reducible repeat (first | apply Kd.R_alloc | apply Kd.R_drewN | apply Kd.R_drew)); exact HO_262002.out) (Kd.S_typed (by (with_reducible repeat (first | apply Kd.S_alloc | apply Kd.S_drewN | apply Kd.S_drew)); exact HO_262003.out)) (by decide) hg)
         have n1_ := asd (blk_grown (g := gb259) (o := .cells #[.int .i64 a0_0, .int .i64 a0_1, .slice A0_2 l0_2.length c0_2, .slice (some ad266) l0_3.length c0_3, .slice A0_4 l0_4.length c0_4] 34 (0, 0)) (by (with_reducible repeat first | apply bn | apply bd | apply ba); exact BK259.out) hg (Kd.S_ne HO_262003.out BK259.out (by decide)))
         have n2_ := asd (blk_grown (g := gb260) (o := .cells #[.int .i64 0, .int .i64 0, .slice none 0 0, .slice none 0 0, .slice none 0 0] 26 (0, 0)) (by (with_reducible repeat first | apply bn | apply bd | apply ba); exact BK260.out) hg (Kd.S_ne HO_262003.out BK260.out (by decide)))
         have n3_ := asd (blk_grown (g := gb261) (o := .cells #[.int .i64 a0_0, .int .i64 a0_1, u262002, u262003, .slice none 0 0] 26 (0, 0)) (by (with_reducible repeat first | apply bn | apply bd | apply ba); exact BK261.out) hg (Kd.S_ne HO_262003.out BK261.out (by decide)))
         have n4_ := asd (hb)
         have n5_ := asd (ho)
         clear HO_262002
         clear BK259
         clear BK260
         clear BK261
         clear HB
         clear HO_262003
         clear HO269
         clear HO272
         clear HO275
         have HO_262002 := n0_
         have BK259 := n1_
         have BK260 := n2_
         have BK261 := n3_
         have HB := n4_
         have HO281 := n5_
         clear n0_ n1_ n2_ n3_ n4_ n5_
         clear ho hb hg hat
         obtain ⟨Ao36, co36, eo36⟩ := Kd.S_slice HO281.out
         (first | subst eo36 | (injection eo36 with f1_ f2_ f3_; have f4_ := f1_.symm; have f5_ := f3_.symm; clear f1_ f2_ f3_; subst f4_; subst f5_))
         refine hK.out _ _ ⟨(blk_cell BK261.out 0).trans rfl, (blk_cell BK261.out 1).trans rfl, (blk_cell BK261.out 2).trans rfl, (blk_cell BK261.out 3).trans rfl, (blk_cell BK261.out 4).trans rfl, (blk_cell BK259.out 0).trans rfl, (blk_cell BK259.out 1).trans rfl, (blk_cell BK259.out 2).trans rfl, (blk_cell BK259.out 3).trans rfl, (blk_cell BK259.out 4).trans rfl, ((HB.out.cell (World.block_lt_of_cell? w _ hw266_0)).trans hw266_0), ((HB.out.cell (World.block_lt_of_cell? w _ hw266_1)).trans hw266_1), ((HB.out.cell (World.block_lt_of_cell? w _ hw266_2)).trans hw266_2), ((HB.out.cell (World.block_lt_of_cell? w _ hw266_3)).trans hw266_3), ((HB.out.cell (World.block_lt_of_cell? w _ hw266_4)).trans hw266_4), ((HB.out.cell (World.block_lt_of_cell? w _ hw266_5)).trans hw266_5)⟩ (fun hHeld => ?_)
         clear hK K
         refine norm_ (a' := ?_) ?_ ?_
         rotate_left
         ·show Act.put _ (some 45) _ = _
          simp only [Act.put, sB, i64_w, i32_w]
          rfl
         refine pure_ (i := 10) (N := some 46) (v := ?_) (a' := ?_) #[true, true, true, true, true, true, true, true, true, true, true, false] rfl rfl (any_of HT_.out (by kernel_rfl)) (fun _ _ _ h => h) (Or.inl ⟨by rfl, ?_⟩) ?_ ?_
         rotate_left
         ·intro w'
          go_simp
          with_reducible rfl
         rotate_left
         ·simp only [Act.put, sB, i64_w, i32_w]
          rfl
         refine last_ (i := 11) (N := none) #[true, true, true, true, true, true, true, true, true, true, true, true] rfl rfl (one_of HT_.out (by kernel_rfl)) (by decide) (fun K hK => ?_)
         have hs37 : w32.cell? ⟨gb261, 3, none⟩ = some (u262003) := (blk_cell BK261.out 3).trans rfl
         have hfs37 := blk_frozen BK261.out 3
         have hns37_0 := NB259_261.out
         have hns37_1 := NB260_261.out
         have hms37_0 := NB261_259.out
         have hms37_1 := NB261_260.out
         refine skip_ (w1 := ?_) (by rfl) rfl ?_ ?_
         rotate_left
         ·go_simp
          rfl
         refine hK.out _ _ ?_
         clear hK K
         refine done_ (done_of HT_.out (by kernel_rfl)) ?_
         try go_wp2
         go_roundg k2
         case measure => have := HK1.out; have := HK2.out; omega
         case rel => exact ⟨(wrap64 (x5_2 + 1)), (y279), (.slice Ao36 y279.length co36), (by first | rfl | (simp; done) | (simp [*]; done)), H', ⟨by have := HK1.out; have := HK2.out; omega⟩, ⟨by (with_reducible repeat (first | apply Kd.R_alloc | apply Kd.R_drewN | apply Kd.R_drew)); exact Kd.R_mono (Kd.R_far (p := ⟨gb261, 3, none⟩) (Kd.R_types HO_262002.out BK261.out (by decide)) (fun _ hk => hk.2) (.slice Ao36 y279.length co36)) (fun _ hk => trivial)⟩, ⟨by (with_reducible repeat (first | apply Kd.S_alloc | apply Kd.S_drewN | apply Kd.S_drew)); exact Kd.S_mono (Kd.S_far (p := ⟨gb261, 3, none⟩) (Kd.S_types HO281.out BK261.out (by decide)) (fun _ hk => hk.2) (.slice Ao36 y279.length co36)) (fun _ hk => trivial)⟩, ⟨by (with_reducible repeat first | apply bn | apply bd | apply ba); refine blk_far ?_ NB259_261.out _; (with_reducible repeat first | apply bn | apply bd | apply ba); exact BK259.out⟩, ⟨by (with_reducible repeat first | apply bn | apply bd | apply ba); refine blk_far ?_ NB260_261.out _; (with_reducible repeat first | apply bn | apply bd | apply ba); exact BK260.out⟩, ⟨by (with_reducible repeat first | apply bn | apply bd | apply ba); refine blk_put (cs := #[.int .i64 a0_0, .int .i64 a0_1, u262002, u262003, .slice none 0 0]) ?_ 3 _ rfl; (with_reducible repeat first | apply bn | apply bd | apply ba); exact BK261.out⟩, ⟨by repeat (first | (with_reducible first | exact HB.out | apply wa | apply wn | apply wd | refine ws ?_ GE259.out | refine ws ?_ GE260.out | refine ws ?_ GE261.out) | exact HB.out)⟩⟩
        ·rw [if_neg c26] at H
         exact absurd H (by simp)
       ·rw [if_neg c24] at H
        exact absurd H (by simp)
      ·rw [if_neg c23] at H
       have c23b0 : decide (x5_2 < (l0_3.length : Int)) = false := decide_eq_false c23
       clear c23
       have H' := asd H
       clear H
       have hnb38 := NB259_260.out
       have hnc38 := NB260_259.out
       have hnb39 := NB259_261.out
       have hnc39 := NB261_259.out
       have hcz40_0 : wr.cell? ⟨gb259, 0, none⟩ = some (.int .i64 a0_0) := (blk_cell BK259.out 0).trans rfl
       have hcz40_1 : wr.cell? ⟨gb259, 1, none⟩ = some (.int .i64 a0_1) := (blk_cell BK259.out 1).trans rfl
       have hcz40_2 : wr.cell? ⟨gb259, 2, none⟩ = some (.slice A0_2 l0_2.length c0_2) := (blk_cell BK259.out 2).trans rfl
       have hcz40_3 : wr.cell? ⟨gb259, 3, none⟩ = some (.slice A0_3 l0_3.length c0_3) := (blk_cell BK259.out 3).trans rfl
       have hcz40_4 : wr.cell? ⟨gb259, 4, none⟩ = some (.slice A0_4 l0_4.length c0_4) := (blk_cell BK259.out 4).trans rfl
       have hfz40_0 := blk_frozen BK259.out 0
       have hfz40_1 := blk_frozen BK259.out 1
       have hfz40_2 := blk_frozen BK259.out 2
       have hfz40_3 := blk_frozen BK259.out 3
       have hfz40_4 := blk_frozen BK259.out 4
       go_wp2
       go_loopg [6] k2 (fun kq v6 w' => ∃ (x6_3 : Int) (x262004_3 : List (S78)) (u262004 : Value), v6 = .int .i64 x6_3 ∧ Aside0 (parcloselaw03_Ref.l2 kq x6_3 a0_0 a0_1 l0_2 l0_3 l0_4 a0_0 a0_1 x262002_1 x262003_2 x262004_3 = some (r1, r2, r3, r4, r5)) ∧ Aside0 (kq ≤ k2) ∧ Aside0 (Kd.R k77 77 w' w.heap.size (fun _ => True) u262002 x262002_1) ∧ Aside0 (Kd.S k61 61 w' w.heap.size (fun _ => True) u262003 x262003_2) ∧ Aside0 (Kd.R k78 78 w' w.heap.size (fun _ => True) u262004 x262004_3) ∧ Aside0 (w'.heap[gb259]? = some (.cells #[.int .i64 a0_0, .int .i64 a0_1, (.slice A0_2 l0_2.length c0_2), (.slice A0_3 l0_3.length c0_3), (.slice A0_4 l0_4.length c0_4)] 34 (0, 0))) ∧ Aside0 (w'.heap[gb260]? = some (.cells #[.int .i64 0, .int .i64 0, (.slice none 0 0), (.slice none 0 0), (.slice none 0 0)] 26 (0, 0))) ∧ Aside0 (w'.heap[gb261]? = some (.cells #[.int .i64 a0_0, .int .i64 a0_1, u262002, u262003, u262004] 26 (0, 0))) ∧ Aside0 (Below w.heap.size w w'))
       case atStart => exact ⟨(0), (([] : List (S78))), (.slice none 0 0), (by first | rfl | (simp; done) | (simp [*]; done)), H', ⟨Nat.le_refl _⟩, ⟨by (with_reducible repeat (first | apply Kd.R_alloc | apply Kd.R_drewN | apply Kd.R_drew)); exact HO_262002.out⟩, ⟨by (with_reducible repeat (first | apply Kd.S_alloc | apply Kd.S_drewN | apply Kd.S_drew)); exact HO_262003.out⟩, ⟨by first | exact Kd.R_nil _ _ _ _ _ | exact Kd.N_nil _ _ _ _ _ | exact Kd.V_nil _ _ _ _ _ | exact Kd.Q_nil _ _ _ _ _ | exact Kd.S_nil _ _ _ _ _⟩, ⟨by (with_reducible repeat first | apply bn | apply bd | apply ba); exact BK259.out⟩, ⟨by (with_reducible repeat first | apply bn | apply bd | apply ba); exact BK260.out⟩, ⟨by (with_reducible repeat first | apply bn | apply bd | apply ba); exact BK261.out⟩, ⟨by repeat (first | (with_reducible first | exact HB.out | apply wa | apply wn | apply wd | refine ws ?_ GE259.out | refine ws ?_ GE260.out | refine ws ?_ GE261.out) | exact HB.out)⟩⟩
       case round =>
        clear H'
        try clear c1
        try clear c2
        try clear p2
        try clear q2
        try clear hx2
        try clear c3
        try clear c4
        try clear c5
        try clear p6
        try clear c7
        try clear c8
        try clear c10
        try clear c10b0
        try clear c11
        try clear c11b0
        try clear c12
        try clear c13
        try clear c14
        try clear c20
        try clear c21
        try clear c23
        try clear c23b0
        try clear c24
        try clear c24b0
        try clear c26
        try clear p26
        try clear q26
        try clear hx26
        try clear c27
        try clear c28
        try clear c38
        try clear c39
        try clear hcz15_0
        try clear hcz15_1
        try clear hcz15_2
        try clear hcz15_3
        try clear hcz15_4
        try clear hcz22_0
        try clear hcz22_1
        try clear hcz22_2
        try clear hcz22_3
        try clear hcz22_4
        try clear hcz29_0
        try clear hcz29_1
        try clear hcz29_2
        try clear hcz29_3
        try clear hcz29_4
        try clear hcz40_0
        try clear hcz40_1
        try clear hcz40_2
        try clear hcz40_3
        try clear hcz40_4
        try clear hcz5_0
        try clear hcz5_1
        try clear hcz5_2
        try clear hcz5_3
        try clear hcz5_4
        try clear hcz9_0
        try clear hcz9_1
        try clear hcz9_2
        try clear hcz9_3
        try clear hcz9_4
        try clear hfz15_0
        try clear hfz15_1
        try clear hfz15_2
        try clear hfz15_3
        try clear hfz15_4
        try clear hfz22_0
        try clear hfz22_1
        try clear hfz22_2
        try clear hfz22_3
        try clear hfz22_4
        try clear hfz29_0
        try clear hfz29_1
        try clear hfz29_2
        try clear hfz29_3
        try clear hfz29_4
        try clear hfz40_0
        try clear hfz40_1
        try clear hfz40_2
        try clear hfz40_3
        try clear hfz40_4
        try clear hfz5_0
        try clear hfz5_1
        try clear hfz5_2
        try clear hfz5_3
        try clear hfz5_4
        try clear hfz9_0
        try clear hfz9_1
        try clear hfz9_2
        try clear hfz9_3
        try clear hfz9_4
        try clear hx262_0
        try clear hx262_1
        try clear hx262_2
        try clear hx266_0
        try clear hx266_1
        try clear hx266_2
        try clear hx266_3
        try clear hx266_4
        try clear hx266_5
        try clear p2
        try clear p262
        try clear p266
        try clear p6
        try clear q2
        try clear q262
        try clear q266
        obtain ⟨x6_3, x262004_3, u262004, rfl, HA, HK3, HO_262002, HO_262003, HO_262004, BK259, BK260, BK261, HB⟩ := hrel
        cases gk with
        | zero => exact absurd HA.out (by simp [parcloselaw03_Ref.l2])
        | succ k3 =>
         have H := HA.out
         clear HA
         simp only [parcloselaw03_Ref.l2] at H
         by_cases c41 : x6_3 < (l0_4.length : Int)
         ·rw [if_pos c41] at H
          have c41b0 : decide (x6_3 < (l0_4.length : Int)) = true := decide_eq_true c41
          clear c41
          by_cases c42 : 0 ≤ x6_3
          ·rw [if_pos c42] at H
           have c42b0 : decide (0 ≤ x6_3) = true := decide_eq_true c42
           clear c42
           by_cases c43 : x262004_3.length < 4398046511104
           ·rw [if_pos c43] at H
            have LMc43 := asd c43
            clear c43
            obtain ⟨y283, hy283⟩ : ∃ y_ : List (S78), y_ = (x262004_3 ++ [(⟨(rd_T44 l0_4 x6_3).f0, (rd_T44 l0_4 x6_3).f1, (rd_T44 l0_4 x6_3).f2, (rd_T44 l0_4 x6_3).f3⟩ : S78)]) := ⟨_, rfl⟩
            replace H : (parcloselaw03_Ref.l2 k3 (wrap64 (x6_3 + 1)) a0_0 a0_1 l0_2 l0_3 l0_4 a0_0 a0_1 x262002_1 x262003_2 y283) = some (r1, r2, r3, r4, r5) := by first | (rw [hy283]; with_reducible exact H) | (have H2_ := (Option.bind_some _ _).symm.trans H; rw [hy283]; with_reducible exact H2_) | (have H2_ := (Option.bind_some _ _).symm.trans H; with_reducible exact H2_) | with_reducible exact H | (rw [hy283]; exact H) | exact H
            have Ny283 := asd hy283
            clear hy283
            have H' := asd H
            clear H
            have hnb44 := NB259_260.out
            have hnc44 := NB260_259.out
            have hnb45 := NB259_261.out
            have hnc45 := NB261_259.out
            have hcz46_0 : wr.cell? ⟨gb259, 0, none⟩ = some (.int .i64 a0_0) := (blk_cell BK259.out 0).trans rfl
            have hcz46_1 : wr.cell? ⟨gb259, 1, none⟩ = some (.int .i64 a0_1) := (blk_cell BK259.out 1).trans rfl
            have hcz46_2 : wr.cell? ⟨gb259, 2, none⟩ = some (.slice A0_2 l0_2.length c0_2) := (blk_cell BK259.out 2).trans rfl
            have hcz46_3 : wr.cell? ⟨gb259, 3, none⟩ = some (.slice A0_3 l0_3.length c0_3) := (blk_cell BK259.out 3).trans rfl
            have hcz46_4 : wr.cell? ⟨gb259, 4, none⟩ = some (.slice A0_4 l0_4.length c0_4) := (blk_cell BK259.out 4).trans rfl
            have hfz46_0 := blk_frozen BK259.out 0
            have hfz46_1 := blk_frozen BK259.out 1
            have hfz46_2 := blk_frozen BK259.out 2
            have hfz46_3 := blk_frozen BK259.out 3
            have hfz46_4 := blk_frozen BK259.out 4
            try go_wp2
            have n0_ := asd (Kd.R_drew HO_262002.out)
            have n1_ := asd (Kd.S_drew HO_262003.out)
            have n2_ := asd (Kd.R_drew HO_262004.out)
            have n3_ := asd (blk_drew BK259.out)
            have n4_ := asd (blk_drew BK260.out)
            have n5_ := asd (blk_drew BK261.out)
            have n6_ := asd (below_drew1 HB.out)
            clear HO_262002
            clear HO_262003
            clear HO_262004
            clear BK259
            clear BK260
            clear BK261
            clear HB
            have HO_262002 := n0_
            have HO_262003 := n1_
            have HO_262004 := n2_
            have BK259 := n3_
            have BK260 := n4_
            have BK261 := n5_
            have HB := n6_
            clear n0_ n1_ n2_ n3_ n4_ n5_ n6_
            have p282 : 0 ≤ (x6_3 : Int) := of_decide_eq_true (by assumption)
            have q282 : x6_3 < (l0_4.length : Int) := of_decide_eq_true (by assumption)
            obtain ⟨ad282, e282, hx282_0, hx282_1, hx282_2, hx282_3⟩ := at_T44 HR0_4.out x6_3 p282 q282
            have hw282_3 := hx282_3
            have hw282_2 := hx282_2
            have hw282_1 := hx282_1
            have hw282_0 := hx282_0
            cases e282
            replace hx282_0 := (HB.out.cell (World.block_lt_of_cell? w _ hx282_0)).trans hx282_0
            replace hx282_1 := (HB.out.cell (World.block_lt_of_cell? w _ hx282_1)).trans hx282_1
            replace hx282_2 := (HB.out.cell (World.block_lt_of_cell? w _ hx282_2)).trans hx282_2
            replace hx282_3 := (HB.out.cell (World.block_lt_of_cell? w _ hx282_3)).trans hx282_3
            replace p282 := eq_true p282
            replace q282 := eq_true q282
            refine start_ (n := 11) (S := fun w' => w'.cell? ⟨gb261, 0, none⟩ = some (.int .i64 a0_0) ∧ w'.cell? ⟨gb261, 1, none⟩ = some (.int .i64 a0_1) ∧ w'.cell? ⟨gb261, 2, none⟩ = some (u262002) ∧ w'.cell? ⟨gb261, 3, none⟩ = some (u262003) ∧ w'.cell? ⟨gb261, 4, none⟩ = some (u262004) ∧ w'.cell? ⟨gb259, 0, none⟩ = some (.int .i64 a0_0) ∧ w'.cell? ⟨gb259, 1, none⟩ = some (.int .i64 a0_1) ∧ w'.cell? ⟨gb259, 2, none⟩ = some (.slice A0_2 l0_2.length c0_2) ∧ w'.cell? ⟨gb259, 3, none⟩ = some (.slice A0_3 l0_3.length c0_3) ∧ w'.cell? ⟨gb259, 4, none⟩ = some (.slice (some ad282) l0_4.length c0_4) ∧ w'.cell? (ad282.add ((x6_3).toNat * 4)) = some (.bool ((rd_T44 l0_4 x6_3).f0)) ∧ w'.cell? ⟨(ad282.add ((x6_3).toNat * 4)).block, (ad282.add ((x6_3).toNat * 4)).off + 1, none⟩ = some (.int .i64 ((rd_T44 l0_4 x6_3).f1)) ∧ w'.cell? ⟨(ad282.add ((x6_3).toNat * 4)).block, (ad282.add ((x6_3).toNat * 4)).off + 2, none⟩ = some (.int .i64 ((rd_T44 l0_4 x6_3).f2)) ∧ w'.cell? ⟨(ad282.add ((x6_3).toNat * 4)).block, (ad282.add ((x6_3).toNat * 4)).off + 3, none⟩ = some (.int .i64 ((rd_T44 l0_4 x6_3).f3))) (ds := [10]) #[false, false, false, false, false, false, false, false, false, false, false] (by kernel_rfl) rfl rfl ⟨(blk_cell BK261.out 0).trans rfl, (blk_cell BK261.out 1).trans rfl, (blk_cell BK261.out 2).trans rfl, (blk_cell BK261.out 3).trans rfl, (blk_cell BK261.out 4).trans rfl, (blk_cell BK259.out 0).trans rfl, (blk_cell BK259.out 1).trans rfl, (blk_cell BK259.out 2).trans rfl, (blk_cell BK259.out 3).trans rfl, (blk_cell BK259.out 4).trans rfl, ((HB.out.cell (World.block_lt_of_cell? w _ hw282_0)).trans hw282_0), ((HB.out.cell (World.block_lt_of_cell? w _ hw282_1)).trans hw282_1), ((HB.out.cell (World.block_lt_of_cell? w _ hw282_2)).trans hw282_2), ((HB.out.cell (World.block_lt_of_cell? w _ hw282_3)).trans hw282_3)⟩ (fun hHeld => ?_); refine with_tabW parcloselaw03_Ref.tab13 parcloselaw03_Ref.bits13 (fun HT_ HW_ => ?_)
            generalize wr.drew = w47 at HO_262002 HO_262003 HO_262004 BK259 BK260 BK261 HB hx282_0 hx282_1 hx282_2 hx282_3 hHeld ⊢
            refine pure_ (i := 0) (N := some 54) (v := ?_) (a' := ?_) #[true, false, false, false, false, false, false, false, false, false, false] rfl rfl (any_of HT_.out (by kernel_rfl)) (fun _ _ _ h => h) (Or.inl ⟨by rfl, ?_⟩) ?_ ?_
            rotate_left
            ·intro w'
             go_simp
             with_reducible rfl
            rotate_left
            ·simp only [Act.put, sB, i64_w, i32_w]
             rfl
            refine pure_ (i := 2) (N := some 56) (v := ?_) (a' := ?_) #[true, false, true, false, false, false, false, false, false, false, false] rfl rfl (any_of HT_.out (by kernel_rfl)) (fun _ _ _ h => h) (Or.inl ⟨by rfl, ?_⟩) ?_ ?_
            rotate_left
            ·intro w'
             go_simp
             with_reducible rfl
            rotate_left
            ·simp only [Act.put, sB, i64_w, i32_w]
             rfl
            refine pure_ (i := 4) (N := some 58) (v := ?_) (a' := ?_) #[true, false, true, false, true, false, false, false, false, false, false] rfl rfl (any_of HT_.out (by kernel_rfl)) (fun _ _ _ h => h) (Or.inl ⟨by rfl, ?_⟩) ?_ ?_
            rotate_left
            ·intro w'
             go_simp
             with_reducible rfl
            rotate_left
            ·simp only [Act.put, sB, i64_w, i32_w]
             rfl
            refine take_ (i := 1) (N := some 55) (v := ?_) (a' := ?_) #[true, true, true, false, true, false, false, false, false, false, false] rfl rfl (take_ofW HT_.out HW_.out (by kernel_rfl)) (fun _ _ _ h => h) (Or.inl ⟨by rfl, ?_⟩) hHeld ?_ ?_
            rotate_left
            ·rintro w' ⟨s0, s1, s2, s3, s4, s5, s6, s7, s8, s9, s10, s11, s12, s13⟩
             go_simp
             with_reducible rfl
            rotate_left
            ·simp only [Act.put, sB, i64_w, i32_w]
             rfl
            refine take_ (i := 3) (N := some 57) (v := ?_) (a' := ?_) #[true, true, true, true, true, false, false, false, false, false, false] rfl rfl (take_ofW HT_.out HW_.out (by kernel_rfl)) (fun _ _ _ h => h) (Or.inl ⟨by rfl, ?_⟩) hHeld ?_ ?_
            rotate_left
            ·rintro w' ⟨s0, s1, s2, s3, s4, s5, s6, s7, s8, s9, s10, s11, s12, s13⟩
             go_simp
             with_reducible rfl
            rotate_left
            ·simp only [Act.put, sB, i64_w, i32_w]
             rfl
            refine pure_ (i := 5) (N := some 59) (v := ?_) (a' := ?_) #[true, true, true, true, true, true, false, false, false, false, false] rfl rfl (any_of HT_.out (by kernel_rfl)) (fun _ _ _ h => h) (Or.inl ⟨by rfl, ?_⟩) ?_ ?_
            rotate_left
            ·intro w'
             go_simp
             with_reducible rfl
            rotate_left
            ·simp only [Act.put, sB, i64_w, i32_w]
             rfl
            refine take_ (i := 6) (N := some 60) (v := ?_) (a' := ?_) #[true, true, true, true, true, true, true, false, false, false, false] rfl rfl (take_ofW HT_.out HW_.out (by kernel_rfl)) (fun _ _ _ h => h) (Or.inl ⟨by rfl, ?_⟩) hHeld ?_ ?_
            rotate_left
            ·rintro w' ⟨s0, s1, s2, s3, s4, s5, s6, s7, s8, s9, s10, s11, s12, s13⟩
             go_simp
             with_reducible rfl
            rotate_left
            ·simp only [Act.put, sB, i64_w, i32_w]
             rfl
            refine one_ (i := 7) (N := some 61) #[true, true, true, true, true, true, true, true, false, false, false] rfl rfl (one_of HT_.out (by kernel_rfl)) (by decide) (fun K hK => ?_)
            refine value_ (w1 := ?_) (v := ?_) (by rfl) rfl ?_ ?_
            rotate_left 2
            ·go_simp
             constructor
             ·rfl
             ·rfl
            refine hK.out _ _ ⟨(blk_cell (blk_alloc BK261.out _) 0).trans rfl, (blk_cell (blk_alloc BK261.out _) 1).trans rfl, (blk_cell (blk_alloc BK261.out _) 2).trans rfl, (blk_cell (blk_alloc BK261.out _) 3).trans rfl, (blk_cell (blk_alloc BK261.out _) 4).trans rfl, (blk_cell (blk_alloc BK259.out _) 0).trans rfl, (blk_cell (blk_alloc BK259.out _) 1).trans rfl, (blk_cell (blk_alloc BK259.out _) 2).trans rfl, (blk_cell (blk_alloc BK259.out _) 3).trans rfl, (blk_cell (blk_alloc BK259.out _) 4).trans rfl, (World.cell?_alloc_lt _ _ _ (World.block_lt_of_cell? _ _ (((HB.out.cell (World.block_lt_of_cell? w _ hw282_0)).trans hw282_0)))).trans (((HB.out.cell (World.block_lt_of_cell? w _ hw282_0)).trans hw282_0)), (World.cell?_alloc_lt _ _ _ (World.block_lt_of_cell? _ _ (((HB.out.cell (World.block_lt_of_cell? w _ hw282_1)).trans hw282_1)))).trans (((HB.out.cell (World.block_lt_of_cell? w _ hw282_1)).trans hw282_1)), (World.cell?_alloc_lt _ _ _ (World.block_lt_of_cell? _ _ (((HB.out.cell (World.block_lt_of_cell? w _ hw282_2)).trans hw282_2)))).trans (((HB.out.cell (World.block_lt_of_cell? w _ hw282_2)).trans hw282_2)), (World.cell?_alloc_lt _ _ _ (World.block_lt_of_cell? _ _ (((HB.out.cell (World.block_lt_of_cell? w _ hw282_3)).trans hw282_3)))).trans (((HB.out.cell (World.block_lt_of_cell? w _ hw282_3)).trans hw282_3))⟩ (fun hHeld => ?_)
            clear hK K
            refine norm_ (a' := ?_) ?_ ?_
            rotate_left
            ·show Act.put _ (some 61) _ = _
             simp only [Act.put, sB, i64_w, i32_w]
             rfl
            refine one_ (i := 8) (N := some 62) #[true, true, true, true, true, true, true, true, true, false, false] rfl rfl (one_of HT_.out (by kernel_rfl)) (by decide) (fun K hK => ?_)
            refine Kd.R_append_step k78 (w0 := w) w.heap.size (by rfl) (.tmp 55) (.tmp 61) 24 78 (.agg #[(.bool false), (.int .i64 0), (.int .i64 0), (.int .i64 0)]) 32 rfl Try.underlying24 info78 rfl (by decide) (by omega) u262004 x262004_3 (⟨(rd_T44 l0_4 x6_3).f0, (rd_T44 l0_4 x6_3).f1, (rd_T44 l0_4 x6_3).f2, (rd_T44 l0_4 x6_3).f3⟩ : S78) [.bool ((rd_T44 l0_4 x6_3).f0), .int .i64 ((rd_T44 l0_4 x6_3).f1), .int .i64 ((rd_T44 l0_4 x6_3).f2), .int .i64 ((rd_T44 l0_4 x6_3).f3)] (fun _ => True) (fun _ => False) rfl rfl ?aP (fun _ hk => hk.elim) ?aF ?aO ?aB ?aS ?aL ?_
            (case aP => exact k78_mkM _ _ _ (⟨(rd_T44 l0_4 x6_3).f0, (rd_T44 l0_4 x6_3).f1, (rd_T44 l0_4 x6_3).f2, (rd_T44 l0_4 x6_3).f3⟩ : S78))
            (case aB => exact (by repeat (first | (with_reducible first | exact HB.out | apply wa | apply wn | apply wd | refine ws ?_ GE259.out | refine ws ?_ GE260.out | refine ws ?_ GE261.out) | exact HB.out)))
            (case aF => exact (fun _ _ => trivial))
            (case aO => exact (by (with_reducible repeat (first | apply Kd.R_alloc | apply Kd.R_drewN | apply Kd.R_drew)); exact HO_262004.out))
            (case aS => exact (below_size (by repeat (first | (with_reducible first | exact HB.out | apply wa | apply wn | apply wd | refine ws ?_ GE259.out | refine ws ?_ GE260.out | refine ws ?_ GE261.out) | exact HB.out))))
            (case aL => have := LMc43.out; omega)
            intro v284 w48 ho hb hg hat
            rw [← Ny283.out] at ho
            have n0_ := asd (Kd.R_over' (by (with_reducible repeat (first | apply Kd.R_alloc | apply Kd.R_drewN | apply Kd.R_drew)); exact HO_262002.out) (Kd.R_typed (by (with_reducible repeat (first | apply Kd.R_alloc | apply Kd.R_drewN | apply Kd.R_drew)); exact HO_262004.out)) (by decide) hg)
            have n1_ := asd (Kd.S_over' (by (with_reducible repeat (first | apply Kd.S_alloc | apply Kd.S_drewN | apply Kd.S_drew)); exact HO_262003.out) (Kd.R_typed (by (with_reducible repeat (first | apply Kd.R_alloc | apply Kd.R_drewN | apply Kd.R_drew)); exact HO_262004.out)) (by decide) hg)
            have n2_ := asd (blk_grown (g := gb259) (o := .cells #[.int .i64 a0_0, .int .i64 a0_1, .slice A0_2 l0_2.length c0_2, .slice A0_3 l0_3.length c0_3, .slice (some ad282) l0_4.length c0_4] 34 (0, 0)) (by (with_reducible repeat first | apply bn | apply bd | apply ba); exact BK259.out) hg (Kd.R_ne HO_262004.out BK259.out (by decide)))
            have n3_ := asd (blk_grown (g := gb260) (o := .cells #[.int .i64 0, .int .i64 0, .slice none 0 0, .slice none 0 0, .slice none 0 0] 26 (0, 0)) (by (with_reducible repeat first | apply bn | apply bd | apply ba); exact BK260.out) hg (Kd.R_ne HO_262004.out BK260.out (by decide)))
            have n4_ := asd (blk_grown (g := gb261) (o := .cells #[.int .i64 a0_0, .int .i64 a0_1, u262002, u262003, u262004] 26 (0, 0)) (by (with_reducible repeat first | apply bn | apply bd | apply ba); exact BK261.out) hg (Kd.R_ne HO_262004.out BK261.out (by decide)))
            have n5_ := asd (hb)
            have n6_ := asd (ho)
            clear HO_262002
            clear HO_262003
            clear BK259
            clear BK260
            clear BK261
            clear HB
            clear HO_262004
            have HO_262002 := n0_
            have HO_262003 := n1_
            have BK259 := n2_
            have BK260 := n3_
            have BK261 := n4_
            have HB := n5_
            have HO285 := n6_
            clear n0_ n1_ n2_ n3_ n4_ n5_ n6_
            clear ho hb hg hat
            obtain ⟨Ao49, co49, eo49⟩ := Kd.R_slice HO285.out
            (first | subst eo49 | (injection eo49 with f1_ f2_ f3_; have f4_ := f1_.symm; have f5_ := f3_.symm; clear f1_ f2_ f3_; subst f4_; subst f5_))
            refine hK.out _ _ ⟨(blk_cell BK261.out 0).trans rfl, (blk_cell BK261.out 1).trans rfl, (blk_cell BK261.out 2).trans rfl, (blk_cell BK261.out 3).trans rfl, (blk_cell BK261.out 4).trans rfl, (blk_cell BK259.out 0).trans rfl, (blk_cell BK259.out 1).trans rfl, (blk_cell BK259.out 2).trans rfl, (blk_cell BK259.out 3).trans rfl, (blk_cell BK259.out 4).trans rfl, ((HB.out.cell (World.block_lt_of_cell? w _ hw282_0)).trans hw282_0), ((HB.out.cell (World.block_lt_of_cell? w _ hw282_1)).trans hw282_1), ((HB.out.cell (World.block_lt_of_cell? w _ hw282_2)).trans hw282_2), ((HB.out.cell (World.block_lt_of_cell? w _ hw282_3)).trans hw282_3)⟩ (fun hHeld => ?_)
            clear hK K
            refine norm_ (a' := ?_) ?_ ?_
            rotate_left
            ·show Act.put _ (some 62) _ = _
             simp only [Act.put, sB, i64_w, i32_w]
             rfl
            refine pure_ (i := 9) (N := some 63) (v := ?_) (a' := ?_) #[true, true, true, true, true, true, true, true, true, true, false] rfl rfl (any_of HT_.out (by kernel_rfl)) (fun _ _ _ h => h) (Or.inl ⟨by rfl, ?_⟩) ?_ ?_
            rotate_left
            ·intro w'
             go_simp
             with_reducible rfl
            rotate_left
            ·simp only [Act.put, sB, i64_w, i32_w]
             rfl
            refine last_ (i := 10) (N := none) #[true, true, true, true, true, true, true, true, true, true, true] rfl rfl (one_of HT_.out (by kernel_rfl)) (by decide) (fun K hK => ?_)
            have hs50 : w48.cell? ⟨gb261, 4, none⟩ = some (u262004) := (blk_cell BK261.out 4).trans rfl
            have hfs50 := blk_frozen BK261.out 4
            have hns50_0 := NB259_261.out
            have hns50_1 := NB260_261.out
            have hms50_0 := NB261_259.out
            have hms50_1 := NB261_260.out
            refine skip_ (w1 := ?_) (by rfl) rfl ?_ ?_
            rotate_left
            ·go_simp
             rfl
            refine hK.out _ _ ?_
            clear hK K
            refine done_ (done_of HT_.out (by kernel_rfl)) ?_
            try go_wp2
            go_roundg k3
            case measure => have := HK1.out; have := HK2.out; have := HK3.out; omega
            case rel => exact ⟨(wrap64 (x6_3 + 1)), (y283), (.slice Ao49 y283.length co49), (by first | rfl | (simp; done) | (simp [*]; done)), H', ⟨by have := HK1.out; have := HK2.out; have := HK3.out; omega⟩, ⟨by (with_reducible repeat (first | apply Kd.R_alloc | apply Kd.R_drewN | apply Kd.R_drew)); exact Kd.R_mono (Kd.R_far (p := ⟨gb261, 4, none⟩) (Kd.R_types HO_262002.out BK261.out (by decide)) (fun _ hk => hk.2) (.slice Ao49 y283.length co49)) (fun _ hk => trivial)⟩, ⟨by (with_reducible repeat (first | apply Kd.S_alloc | apply Kd.S_drewN | apply Kd.S_drew)); exact Kd.S_mono (Kd.S_far (p := ⟨gb261, 4, none⟩) (Kd.S_types HO_262003.out BK261.out (by decide)) (fun _ hk => hk.2) (.slice Ao49 y283.length co49)) (fun _ hk => trivial)⟩, ⟨by (with_reducible repeat (first | apply Kd.R_alloc | apply Kd.R_drewN | apply Kd.R_drew)); exact Kd.R_mono (Kd.R_far (p := ⟨gb261, 4, none⟩) (Kd.R_types HO285.out BK261.out (by decide)) (fun _ hk => hk.2) (.slice Ao49 y283.length co49)) (fun _ hk => trivial)⟩, ⟨by (with_reducible repeat first | apply bn | apply bd | apply ba); refine blk_far ?_ NB259_261.out _; (with_reducible repeat first | apply bn | apply bd | apply ba); exact BK259.out⟩, ⟨by (with_reducible repeat first | apply bn | apply bd | apply ba); refine blk_far ?_ NB260_261.out _; (with_reducible repeat first | apply bn | apply bd | apply ba); exact BK260.out⟩, ⟨by (with_reducible repeat first | apply bn | apply bd | apply ba); refine blk_put (cs := #[.int .i64 a0_0, .int .i64 a0_1, u262002, u262003, u262004]) ?_ 4 _ rfl; (with_reducible repeat first | apply bn | apply bd | apply ba); exact BK261.out⟩, ⟨by repeat (first | (with_reducible first | exact HB.out | apply wa | apply wn | apply wd | refine ws ?_ GE259.out | refine ws ?_ GE260.out | refine ws ?_ GE261.out) | exact HB.out)⟩⟩
           ·rw [if_neg c43] at H
            exact absurd H (by simp)
          ·rw [if_neg c42] at H
           exact absurd H (by simp)
         ·rw [if_neg c41] at H
          have c41b0 : decide (x6_3 < (l0_4.length : Int)) = false := decide_eq_false c41
          clear c41
          simp only [Option.some.injEq, Prod.mk.injEq] at H
          obtain ⟨rfl, rfl, rfl, rfl, rfl⟩ := H
          have hnb51 := NB259_260.out
          have hnc51 := NB260_259.out
          have hnb52 := NB259_261.out
          have hnc52 := NB261_259.out
          have hcz53_0 : wr.cell? ⟨gb259, 0, none⟩ = some (.int .i64 a0_0) := (blk_cell BK259.out 0).trans rfl
          have hcz53_1 : wr.cell? ⟨gb259, 1, none⟩ = some (.int .i64 a0_1) := (blk_cell BK259.out 1).trans rfl
          have hcz53_2 : wr.cell? ⟨gb259, 2, none⟩ = some (.slice A0_2 l0_2.length c0_2) := (blk_cell BK259.out 2).trans rfl
          have hcz53_3 : wr.cell? ⟨gb259, 3, none⟩ = some (.slice A0_3 l0_3.length c0_3) := (blk_cell BK259.out 3).trans rfl
          have hcz53_4 : wr.cell? ⟨gb259, 4, none⟩ = some (.slice A0_4 l0_4.length c0_4) := (blk_cell BK259.out 4).trans rfl
          have hfz53_0 := blk_frozen BK259.out 0
          have hfz53_1 := blk_frozen BK259.out 1
          have hfz53_2 := blk_frozen BK259.out 2
          have hfz53_3 := blk_frozen BK259.out 3
          have hfz53_4 := blk_frozen BK259.out 4
          have hnb54 := NB261_260.out
          have hnc54 := NB260_261.out
          have hcz55_0 : wr.cell? ⟨gb261, 0, none⟩ = some (.int .i64 a0_0) := (blk_cell BK261.out 0).trans rfl
          have hcz55_1 : wr.cell? ⟨gb261, 1, none⟩ = some (.int .i64 a0_1) := (blk_cell BK261.out 1).trans rfl
          have hcz55_2 : wr.cell? ⟨gb261, 2, none⟩ = some (u262002) := (blk_cell BK261.out 2).trans rfl
          have hcz55_3 : wr.cell? ⟨gb261, 3, none⟩ = some (u262003) := (blk_cell BK261.out 3).trans rfl
          have hcz55_4 : wr.cell? ⟨gb261, 4, none⟩ = some (u262004) := (blk_cell BK261.out 4).trans rfl
          have hfz55_0 := blk_frozen BK261.out 0
          have hfz55_1 := blk_frozen BK261.out 1
          have hfz55_2 := blk_frozen BK261.out 2
          have hfz55_3 := blk_frozen BK261.out 3
          have hfz55_4 := blk_frozen BK261.out 4
          have hcz56_0 : wr.cell? ⟨gb260, 0, none⟩ = some (.int .i64 0) := (blk_cell BK260.out 0).trans rfl
          have hcz56_1 : wr.cell? ⟨gb260, 1, none⟩ = some (.int .i64 0) := (blk_cell BK260.out 1).trans rfl
          have hcz56_2 : wr.cell? ⟨gb260, 2, none⟩ = some (.slice none 0 0) := (blk_cell BK260.out 2).trans rfl
          have hcz56_3 : wr.cell? ⟨gb260, 3, none⟩ = some (.slice none 0 0) := (blk_cell BK260.out 3).trans rfl
          have hcz56_4 : wr.cell? ⟨gb260, 4, none⟩ = some (.slice none 0 0) := (blk_cell BK260.out 4).trans rfl
          have hfz56_0 := blk_frozen BK260.out 0
          have hfz56_1 := blk_frozen BK260.out 1
          have hfz56_2 := blk_frozen BK260.out 2
          have hfz56_3 := blk_frozen BK260.out 3
          have hfz56_4 := blk_frozen BK260.out 4
          obtain ⟨Ao57, co57, eo57⟩ := Kd.R_slice HO_262002.out
          subst eo57
          obtain ⟨Ao58, co58, eo58⟩ := Kd.S_slice HO_262003.out
          subst eo58
          obtain ⟨Ao59, co59, eo59⟩ := Kd.R_slice HO_262004.out
          subst eo59
          go_wp2
          refine bodyPost_ret (results_cell_row rfl _ _ gb260 26 #[.int .i64 a0_0, .int .i64 a0_1, .slice Ao57 x262002_1.length co57, .slice Ao58 x262003_2.length co58, .slice Ao59 x262004_3.length co59] (0, 0) _ rfl (by (with_reducible repeat first | apply bn | apply bd | apply ba); refine blk_put (cs := #[.int .i64 a0_0, .int .i64 a0_1, .slice Ao57 x262002_1.length co57, .slice Ao58 x262003_2.length co58, .slice none 0 0]) ?_ 4 _ rfl; (with_reducible repeat first | apply bn | apply bd | apply ba); refine blk_put (cs := #[.int .i64 a0_0, .int .i64 a0_1, .slice Ao57 x262002_1.length co57, .slice none 0 0, .slice none 0 0]) ?_ 3 _ rfl; (with_reducible repeat first | apply bn | apply bd | apply ba); refine blk_put (cs := #[.int .i64 a0_0, .int .i64 a0_1, .slice none 0 0, .slice none 0 0, .slice none 0 0]) ?_ 2 _ rfl; (with_reducible repeat first | apply bn | apply bd | apply ba); refine blk_put (cs := #[.int .i64 a0_0, .int .i64 0, .slice none 0 0, .slice none 0 0, .slice none 0 0]) ?_ 1 _ rfl; (with_reducible repeat first | apply bn | apply bd | apply ba); refine blk_put (cs := #[.int .i64 0, .int .i64 0, .slice none 0 0, .slice none 0 0, .slice none 0 0]) ?_ 0 _ rfl; (with_reducible repeat first | apply bn | apply bd | apply ba); exact BK260.out) Try.underlying26 rfl (by kernel_rfl)) rfl ?_
          exact ⟨_, _, _, by first | rfl | (simp [*] <;> rfl), by (with_reducible repeat (first | apply Kd.R_alloc | apply Kd.R_drewN | apply Kd.R_drew)); exact Kd.R_mono (Kd.R_far (p := ⟨gb260, 4, none⟩) (Kd.R_far (p := ⟨gb260, 3, none⟩) (Kd.R_far (p := ⟨gb260, 2, none⟩) (Kd.R_far (p := ⟨gb260, 1, none⟩) (Kd.R_far (p := ⟨gb260, 0, none⟩) (Kd.R_types HO_262002.out BK260.out (by decide)) (fun _ hk => hk.2) (.int .i64 a0_0)) (fun _ hk => hk.2) (.int .i64 a0_1)) (fun _ hk => hk.2) (.slice Ao57 x262002_1.length co57)) (fun _ hk => hk.2) (.slice Ao58 x262003_2.length co58)) (fun _ hk => hk.2) (.slice Ao59 x262004_3.length co59)) (fun _ hk => trivial), by (with_reducible repeat (first | apply Kd.S_alloc | apply Kd.S_drewN | apply Kd.S_drew)); exact Kd.S_mono (Kd.S_far (p := ⟨gb260, 4, none⟩) (Kd.S_far (p := ⟨gb260, 3, none⟩) (Kd.S_far (p := ⟨gb260, 2, none⟩) (Kd.S_far (p := ⟨gb260, 1, none⟩) (Kd.S_far (p := ⟨gb260, 0, none⟩) (Kd.S_types HO_262003.out BK260.out (by decide)) (fun _ hk => hk.2) (.int .i64 a0_0)) (fun _ hk => hk.2) (.int .i64 a0_1)) (fun _ hk => hk.2) (.slice Ao57 x262002_1.length co57)) (fun _ hk => hk.2) (.slice Ao58 x262003_2.length co58)) (fun _ hk => hk.2) (.slice Ao59 x262004_3.length co59)) (fun _ hk => trivial), by (with_reducible repeat (first | apply Kd.R_alloc | apply Kd.R_drewN | apply Kd.R_drew)); exact Kd.R_mono (Kd.R_far (p := ⟨gb260, 4, none⟩) (Kd.R_far (p := ⟨gb260, 3, none⟩) (Kd.R_far (p := ⟨gb260, 2, none⟩) (Kd.R_far (p := ⟨gb260, 1, none⟩) (Kd.R_far (p := ⟨gb260, 0, none⟩) (Kd.R_types HO_262004.out BK260.out (by decide)) (fun _ hk => hk.2) (.int .i64 a0_0)) (fun _ hk => hk.2) (.int .i64 a0_1)) (fun _ hk => hk.2) (.slice Ao57 x262002_1.length co57)) (fun _ hk => hk.2) (.slice Ao58 x262003_2.length co58)) (fun _ hk => hk.2) (.slice Ao59 x262004_3.length co59)) (fun _ hk => trivial), by repeat (first | (with_reducible first | exact HB.out | apply wa | apply wn | apply wd | refine ws ?_ GE259.out | refine ws ?_ GE260.out | refine ws ?_ GE261.out) | exact HB.out)⟩
end Go.Proofs.Ytmjhnmdmopmfjaa.Fn
namespace Go.Proofs.Ytmjhnmdmopmfjaa.Fn
open Go.RowKit Go.Proofs.YtmjhnmdmopmfjaaW.PrintWords Go.Proofs.YtmjhnmdmopmfjaaW.PrintLast Go.Proofs.YtmjhnmdmopmfjaaW.PrintMore
set_option linter.unusedVariables false
set_option linter.unusedSimpArgs false
def conf_Window_50.f (l0 : List (S42)) : Option (List (S42)) := if l0.length < 5864062014805 then some l0 else none
theorem conf_Window_50.info : (Try.prog.info? 42).map (fun i => (i.zero, i.size, i.bytes)) = some (some (.agg #[(.int .i64 0), (.int .i64 0), (.int .i64 0)]), 3, 24) := by kernel_rfl
set_option maxHeartbeats 8000000 in
set_option maxRecDepth 100000 in
theorem conf_Window_50.calls (A0 : Option Addr) (c0 : Nat) (l0 : List (S42)) (r : List (S42)) (w : World) (hr0 : Kd.C k42 w A0 l0.length l0) (hc0 : l0.length ≤ c0) (h : conf_Window_50.f l0 = some r) :
  Calls Try.prog 50 #[.slice A0 l0.length c0] w fun e w' => ∃ v0_ : Value, e = .returned (v0_) ∧ Kd.R k42 42 w' w.heap.size (fun _ => True) v0_ r ∧ Below w.heap.size w w' := by
 unfold conf_Window_50.f at h
 by_cases c1 : l0.length < 5864062014805
 ·rw [if_pos c1] at h
  obtain rfl := Option.some.inj h
  have HR0 := asd hr0
  have HC1 := asd c1
  clear hr0 hc0 h c1
  have hq := fun (w : World) (a : Option Addr) n c => Lib.run_eql_slice_nil (P := Try.prog) w 30 42 a n c 0 0 Try.underlying30
  cases A0 with
  | none =>
   have e0 : l0 = [] := by
    rcases Nat.eq_zero_or_pos l0.length with h0 | h0
    ·exact List.eq_nil_of_length_eq_zero h0
    ·obtain ⟨ad, h, _⟩ := HR0.out.2.2 h0; cases h
   subst e0
   go_enter Try.func50, Try.ntmps50
   go_wp2
   go_ret
   exact ⟨_, rfl, Kd.R_nil _ _ _ _ _, Below.refl _ _⟩
  | some ad =>
   go_enter Try.func50, Try.ntmps50
   go_wp2_with (first | ((with_reducible refine gate_dst (N := 5) rfl ?_); refine Kd.R_lit k42 _ 42 ?hg (N := 5) ?hd (xs := ([] : List (S42))) (inner := []) (ok := fun _ => True) (okp := fun _ => True) ?hr ?hp (fun _ hk => hk) trivial (Below.refl _ _) (Nat.le_refl _) (by simp) ?_; (case hd => rfl); (case hg => rfl); (case hr => first | (go_simp; done) | (go_simp; rfl)); (case hp => exact (Reps.none _ _)); intro v1 w1 ho hb hg hat; have HO := asd ho; have HB := asd hb; clear ho hb hg hat) | ((with_reducible refine gate_builtin (b := .append) (xs := #[.tmp 5, .tmp 6]) rfl ?_); at_builtin; refine Kd.R_append_rows k42 (w0 := w) w.heap.size rfl (.tmp 5) (.tmp 6) 30 42 (.agg #[(.int .i64 0), (.int .i64 0), (.int .i64 0)]) 24 rfl Try.underlying30 conf_Window_50.info rfl (by decide) (by omega) v1 [] l0 _ _ _ (fun _ => True) (fun _ => False) rfl rfl ?aO ?aR (fun _ _ h => h) (fun _ h => h.elim) ?aF ?aB ?aS ?aL ?_; (case aR => exact Kd.C_below HR0.out HB.out); (case aB => exact HB.out); (case aF => exact (fun _ _ => trivial)); (case aO => exact HO.out); (case aS => exact HB.out.size); (case aL => have := HC1.out; simp only [List.length_nil]; omega); intro v2 w2 ho2 hb2 hg2 hat2; have HO2 := asd ho2; have HB2 := asd hb2; clear ho2 hb2 hg2 hat2))
   go_ret
   exact ⟨_, rfl, HO2.out, HB2.out⟩
 ·rw [if_neg c1] at h; cases h
def conf_Channel_51.f (l0 : List (S44)) : Option (List (S44)) := if l0.length < 4398046511104 then some l0 else none
theorem conf_Channel_51.info : (Try.prog.info? 44).map (fun i => (i.zero, i.size, i.bytes)) = some (some (.agg #[(.bool false), (.int .i64 0), (.int .i64 0), (.int .i64 0)]), 4, 32) := by kernel_rfl
set_option maxHeartbeats 8000000 in
set_option maxRecDepth 100000 in
theorem conf_Channel_51.calls (A0 : Option Addr) (c0 : Nat) (l0 : List (S44)) (r : List (S44)) (w : World) (hr0 : Kd.C k44 w A0 l0.length l0) (hc0 : l0.length ≤ c0) (h : conf_Channel_51.f l0 = some r) :
  Calls Try.prog 51 #[.slice A0 l0.length c0] w fun e w' => ∃ v0_ : Value, e = .returned (v0_) ∧ Kd.R k44 44 w' w.heap.size (fun _ => True) v0_ r ∧ Below w.heap.size w w' := by
 unfold conf_Channel_51.f at h
 by_cases c1 : l0.length < 4398046511104
 ·rw [if_pos c1] at h
  obtain rfl := Option.some.inj h
  have HR0 := asd hr0
  have HC1 := asd c1
  clear hr0 hc0 h c1
  have hq := fun (w : World) (a : Option Addr) n c => Lib.run_eql_slice_nil (P := Try.prog) w 32 44 a n c 0 0 Try.underlying32
  cases A0 with
  | none =>
   have e0 : l0 = [] := by
    rcases Nat.eq_zero_or_pos l0.length with h0 | h0
    ·exact List.eq_nil_of_length_eq_zero h0
    ·obtain ⟨ad, h, _⟩ := HR0.out.2.2 h0; cases h
   subst e0
   go_enter Try.func51, Try.ntmps51
   go_wp2
   go_ret
   exact ⟨_, rfl, Kd.R_nil _ _ _ _ _, Below.refl _ _⟩
  | some ad =>
   go_enter Try.func51, Try.ntmps51
   go_wp2_with (first | ((with_reducible refine gate_dst (N := 5) rfl ?_); refine Kd.R_lit k44 _ 44 ?hg (N := 5) ?hd (xs := ([] : List (S44))) (inner := []) (ok := fun _ => True) (okp := fun _ => True) ?hr ?hp (fun _ hk => hk) trivial (Below.refl _ _) (Nat.le_refl _) (by simp) ?_; (case hd => rfl); (case hg => rfl); (case hr => first | (go_simp; done) | (go_simp; rfl)); (case hp => exact (Reps.none _ _)); intro v1 w1 ho hb hg hat; have HO := asd ho; have HB := asd hb; clear ho hb hg hat) | ((with_reducible refine gate_builtin (b := .append) (xs := #[.tmp 5, .tmp 6]) rfl ?_); at_builtin; refine Kd.R_append_rows k44 (w0 := w) w.heap.size rfl (.tmp 5) (.tmp 6) 32 44 (.agg #[(.bool false), (.int .i64 0), (.int .i64 0), (.int .i64 0)]) 32 rfl Try.underlying32 conf_Channel_51.info rfl (by decide) (by omega) v1 [] l0 _ _ _ (fun _ => True) (fun _ => False) rfl rfl ?aO ?aR (fun _ _ h => h) (fun _ h => h.elim) ?aF ?aB ?aS ?aL ?_; (case aR => exact Kd.C_below HR0.out HB.out); (case aB => exact HB.out); (case aF => exact (fun _ _ => trivial)); (case aO => exact HO.out); (case aS => exact HB.out.size); (case aL => have := HC1.out; simp only [List.length_nil]; omega); intro v2 w2 ho2 hb2 hg2 hat2; have HO2 := asd ho2; have HB2 := asd hb2; clear ho2 hb2 hg2 hat2))
   go_ret
   exact ⟨_, rfl, HO2.out, HB2.out⟩
 ·rw [if_neg c1] at h; cases h
def conf_Task_52.f (l0 : List (S51)) : Option (List (S51)) := if l0.length < 2932031007402 then some l0 else none
theorem conf_Task_52.info : (Try.prog.info? 51).map (fun i => (i.zero, i.size, i.bytes)) = some (some (.agg #[(.bool false), (.int .i64 0), (.int .i64 0), (.int .i64 0), (.int .i64 0), (.int .i64 0)]), 6, 48) := by kernel_rfl
set_option maxHeartbeats 8000000 in
set_option maxRecDepth 100000 in
theorem conf_Task_52.calls (A0 : Option Addr) (c0 : Nat) (l0 : List (S51)) (r : List (S51)) (w : World) (hr0 : Kd.C k51 w A0 l0.length l0) (hc0 : l0.length ≤ c0) (h : conf_Task_52.f l0 = some r) :
  Calls Try.prog 52 #[.slice A0 l0.length c0] w fun e w' => ∃ v0_ : Value, e = .returned (v0_) ∧ Kd.R k51 51 w' w.heap.size (fun _ => True) v0_ r ∧ Below w.heap.size w w' := by
 unfold conf_Task_52.f at h
 by_cases c1 : l0.length < 2932031007402
 ·rw [if_pos c1] at h
  obtain rfl := Option.some.inj h
  have HR0 := asd hr0
  have HC1 := asd c1
  clear hr0 hc0 h c1
  have hq := fun (w : World) (a : Option Addr) n c => Lib.run_eql_slice_nil (P := Try.prog) w 45 51 a n c 0 0 Try.underlying45
  cases A0 with
  | none =>
   have e0 : l0 = [] := by
    rcases Nat.eq_zero_or_pos l0.length with h0 | h0
    ·exact List.eq_nil_of_length_eq_zero h0
    ·obtain ⟨ad, h, _⟩ := HR0.out.2.2 h0; cases h
   subst e0
   go_enter Try.func52, Try.ntmps52
   go_wp2
   go_ret
   exact ⟨_, rfl, Kd.R_nil _ _ _ _ _, Below.refl _ _⟩
  | some ad =>
   go_enter Try.func52, Try.ntmps52
   go_wp2_with (first | ((with_reducible refine gate_dst (N := 5) rfl ?_); refine Kd.R_lit k51 _ 51 ?hg (N := 5) ?hd (xs := ([] : List (S51))) (inner := []) (ok := fun _ => True) (okp := fun _ => True) ?hr ?hp (fun _ hk => hk) trivial (Below.refl _ _) (Nat.le_refl _) (by simp) ?_; (case hd => rfl); (case hg => rfl); (case hr => first | (go_simp; done) | (go_simp; rfl)); (case hp => exact (Reps.none _ _)); intro v1 w1 ho hb hg hat; have HO := asd ho; have HB := asd hb; clear ho hb hg hat) | ((with_reducible refine gate_builtin (b := .append) (xs := #[.tmp 5, .tmp 6]) rfl ?_); at_builtin; refine Kd.R_append_rows k51 (w0 := w) w.heap.size rfl (.tmp 5) (.tmp 6) 45 51 (.agg #[(.bool false), (.int .i64 0), (.int .i64 0), (.int .i64 0), (.int .i64 0), (.int .i64 0)]) 48 rfl Try.underlying45 conf_Task_52.info rfl (by decide) (by omega) v1 [] l0 _ _ _ (fun _ => True) (fun _ => False) rfl rfl ?aO ?aR (fun _ _ h => h) (fun _ h => h.elim) ?aF ?aB ?aS ?aL ?_; (case aR => exact Kd.C_below HR0.out HB.out); (case aB => exact HB.out); (case aF => exact (fun _ _ => trivial)); (case aO => exact HO.out); (case aS => exact HB.out.size); (case aL => have := HC1.out; simp only [List.length_nil]; omega); intro v2 w2 ho2 hb2 hg2 hat2; have HO2 := asd ho2; have HB2 := asd hb2; clear ho2 hb2 hg2 hat2))
   go_ret
   exact ⟨_, rfl, HO2.out, HB2.out⟩
 ·rw [if_neg c1] at h; cases h
def conf_Server_53.f (l0 : List (S53)) : Option (List (S53)) := if l0.length < 5864062014805 then some l0 else none
theorem conf_Server_53.info : (Try.prog.info? 53).map (fun i => (i.zero, i.size, i.bytes)) = some (some (.agg #[(.bool false), (.int .i64 0), (.int .i64 0)]), 3, 24) := by kernel_rfl
set_option maxHeartbeats 8000000 in
set_option maxRecDepth 100000 in
theorem conf_Server_53.calls (A0 : Option Addr) (c0 : Nat) (l0 : List (S53)) (r : List (S53)) (w : World) (hr0 : Kd.C k53 w A0 l0.length l0) (hc0 : l0.length ≤ c0) (h : conf_Server_53.f l0 = some r) :
  Calls Try.prog 53 #[.slice A0 l0.length c0] w fun e w' => ∃ v0_ : Value, e = .returned (v0_) ∧ Kd.R k53 53 w' w.heap.size (fun _ => True) v0_ r ∧ Below w.heap.size w w' := by
 unfold conf_Server_53.f at h
 by_cases c1 : l0.length < 5864062014805
 ·rw [if_pos c1] at h
  obtain rfl := Option.some.inj h
  have HR0 := asd hr0
  have HC1 := asd c1
  clear hr0 hc0 h c1
  have hq := fun (w : World) (a : Option Addr) n c => Lib.run_eql_slice_nil (P := Try.prog) w 46 53 a n c 0 0 Try.underlying46
  cases A0 with
  | none =>
   have e0 : l0 = [] := by
    rcases Nat.eq_zero_or_pos l0.length with h0 | h0
    ·exact List.eq_nil_of_length_eq_zero h0
    ·obtain ⟨ad, h, _⟩ := HR0.out.2.2 h0; cases h
   subst e0
   go_enter Try.func53, Try.ntmps53
   go_wp2
   go_ret
   exact ⟨_, rfl, Kd.R_nil _ _ _ _ _, Below.refl _ _⟩
  | some ad =>
   go_enter Try.func53, Try.ntmps53
   go_wp2_with (first | ((with_reducible refine gate_dst (N := 5) rfl ?_); refine Kd.R_lit k53 _ 53 ?hg (N := 5) ?hd (xs := ([] : List (S53))) (inner := []) (ok := fun _ => True) (okp := fun _ => True) ?hr ?hp (fun _ hk => hk) trivial (Below.refl _ _) (Nat.le_refl _) (by simp) ?_; (case hd => rfl); (case hg => rfl); (case hr => first | (go_simp; done) | (go_simp; rfl)); (case hp => exact (Reps.none _ _)); intro v1 w1 ho hb hg hat; have HO := asd ho; have HB := asd hb; clear ho hb hg hat) | ((with_reducible refine gate_builtin (b := .append) (xs := #[.tmp 5, .tmp 6]) rfl ?_); at_builtin; refine Kd.R_append_rows k53 (w0 := w) w.heap.size rfl (.tmp 5) (.tmp 6) 46 53 (.agg #[(.bool false), (.int .i64 0), (.int .i64 0)]) 24 rfl Try.underlying46 conf_Server_53.info rfl (by decide) (by omega) v1 [] l0 _ _ _ (fun _ => True) (fun _ => False) rfl rfl ?aO ?aR (fun _ _ h => h) (fun _ h => h.elim) ?aF ?aB ?aS ?aL ?_; (case aR => exact Kd.C_below HR0.out HB.out); (case aB => exact HB.out); (case aF => exact (fun _ _ => trivial)); (case aO => exact HO.out); (case aS => exact HB.out.size); (case aL => have := HC1.out; simp only [List.length_nil]; omega); intro v2 w2 ho2 hb2 hg2 hat2; have HO2 := asd ho2; have HB2 := asd hb2; clear ho2 hb2 hg2 hat2))
   go_ret
   exact ⟨_, rfl, HO2.out, HB2.out⟩
 ·rw [if_neg c1] at h; cases h
def slices_Clone_int_int.f (l0 : List Int) : Option (List Int) := if l0.length < 17592186044416 then some l0 else none
theorem slices_Clone_int_int.info : (Try.prog.info? 3).map (fun i => (i.zero, i.size, i.bytes)) = some (some (.int .i64 0), 1, 8) := by kernel_rfl
set_option maxHeartbeats 8000000 in
set_option maxRecDepth 100000 in
theorem slices_Clone_int_int.calls (A0 : Option Addr) (c0 : Nat) (l0 : List Int) (r : List Int) (w : World) (hr0 : Kd.C (Kd.int .i64) w A0 l0.length l0) (hc0 : l0.length ≤ c0) (h : slices_Clone_int_int.f l0 = some r) :
  Calls Try.prog 54 #[.slice A0 l0.length c0] w fun e w' => ∃ v0_ : Value, e = .returned (v0_) ∧ Kd.R (Kd.int .i64) 3 w' w.heap.size (fun _ => True) v0_ r ∧ Below w.heap.size w w' := by
 unfold slices_Clone_int_int.f at h
 by_cases c1 : l0.length < 17592186044416
 ·rw [if_pos c1] at h
  obtain rfl := Option.some.inj h
  have HR0 := asd hr0
  have HC1 := asd c1
  clear hr0 hc0 h c1
  have hq := fun (w : World) (a : Option Addr) n c => Lib.run_eql_slice_nil (P := Try.prog) w 27 3 a n c 0 0 Try.underlying27
  cases A0 with
  | none =>
   have e0 : l0 = [] := by
    rcases Nat.eq_zero_or_pos l0.length with h0 | h0
    ·exact List.eq_nil_of_length_eq_zero h0
    ·obtain ⟨ad, h, _⟩ := HR0.out.2.2 h0; cases h
   subst e0
   go_enter Try.func54, Try.ntmps54
   go_wp2
   go_ret
   exact ⟨_, rfl, Kd.R_nil _ _ _ _ _, Below.refl _ _⟩
  | some ad =>
   go_enter Try.func54, Try.ntmps54
   go_wp2_with (first | ((with_reducible refine gate_dst (N := 5) rfl ?_); refine Kd.R_lit (Kd.int .i64) _ 3 ?hg (N := 5) ?hd (xs := ([] : List Int)) (inner := []) (ok := fun _ => True) (okp := fun _ => True) ?hr ?hp (fun _ hk => hk) trivial (Below.refl _ _) (Nat.le_refl _) (by simp) ?_; (case hd => rfl); (case hg => rfl); (case hr => first | (go_simp; done) | (go_simp; rfl)); (case hp => exact (Reps.none _ _)); intro v1 w1 ho hb hg hat; have HO := asd ho; have HB := asd hb; clear ho hb hg hat) | ((with_reducible refine gate_builtin (b := .append) (xs := #[.tmp 5, .tmp 6]) rfl ?_); at_builtin; refine Kd.R_append_rows (Kd.int .i64) (w0 := w) w.heap.size rfl (.tmp 5) (.tmp 6) 27 3 (.int .i64 0) 8 rfl Try.underlying27 slices_Clone_int_int.info rfl (by decide) (by omega) v1 [] l0 _ _ _ (fun _ => True) (fun _ => False) rfl rfl ?aO ?aR (fun _ _ h => h) (fun _ h => h.elim) ?aF ?aB ?aS ?aL ?_; (case aR => exact Kd.C_below HR0.out HB.out); (case aB => exact HB.out); (case aF => exact (fun _ _ => trivial)); (case aO => exact HO.out); (case aS => exact HB.out.size); (case aL => have := HC1.out; simp only [List.length_nil]; omega); intro v2 w2 ho2 hb2 hg2 hat2; have HO2 := asd ho2; have HB2 := asd hb2; clear ho2 hb2 hg2 hat2))
   go_ret
   exact ⟨_, rfl, HO2.out, HB2.out⟩
 ·rw [if_neg c1] at h; cases h
def slices_Clone_byte_byte.f (l0 : List Int) : Option (List Int) := if l0.length < 140737488355328 then some l0 else none
end Go.Proofs.Ytmjhnmdmopmfjaa.Fn
namespace Go.Proofs.Ytmjhnmdmopmfjaa.Fn
open Go.RowKit Go.Proofs.YtmjhnmdmopmfjaaW.PrintWords Go.Proofs.YtmjhnmdmopmfjaaW.PrintLast Go.Proofs.YtmjhnmdmopmfjaaW.PrintMore
attribute [local go_sem] max2_int min2_int max_two min_two max_three min_three max_four min_four
set_option linter.unusedVariables false
set_option linter.unusedSimpArgs false
def conf_Clone.l0 : Nat → List (S49) → List (S49) → Int → Int → Int → Int → List (S42) → List (S49) → List (S44) → Option (Int × Int × (List (S42)) × (List (S49)) × (List (S44)))
 | 0, _, _, _, _, _, _, _, _, _ => none
 | k + 1, x3, x15, x16, x17, x204000, x204001, x204002, x204003, x204004 => if x17 < x16 then (if 0 ≤ x17 then (if x17 < (x15.length : Int) then ((conf_Task_52.f ((rd_T49 x15 x17).f0)).bind fun t213 => ((conf_Server_53.f ((rd_T49 x15 x17).f1)).bind fun t216 => ((slices_Clone_int_int.f ((rd_T49 x15 x17).f2)).bind fun t219 => (if x3.length < 1759218604441 then (conf_Clone.l0 k (x3 ++ [(⟨t213, t216, t219, (⟨(rd_T49 x15 x17).f3.f0, (rd_T49 x15 x17).f3.f1, (rd_T49 x15 x17).f3.f2⟩ : S47)⟩ : S49)]) x15 x16 (wrap64 (x17 + 1)) x204000 x204001 x204002 x204003 x204004) else (none))))) else (none)) else (none)) else (some (x204000, x204001, x204002, x3, x204004))
def conf_Clone.f (k : Nat) (a0_0 : Int) (a0_1 : Int) (l0_2 : List (S42)) (l0_3 : List (S49)) (l0_4 : List (S44)) : Option (Int × Int × (List (S42)) × (List (S49)) × (List (S44))) := (conf_Window_50.f l0_2).bind fun t205 => ((conf_Channel_51.f l0_4).bind fun t208 => (conf_Clone.l0 k ([] : List (S49)) l0_3 (l0_3.length : Int) 0 a0_0 a0_1 t205 l0_3 t208))
def conf_Clone.T1 : Bool × List (List Nat × List Nat) := (true, [([], []), ([0], [0]), ([1], [1]), ([], []), ([3], [3]), ([4, 2], [4]), ([0, 1, 2, 3, 4], []), ([6, 2, 5, 0, 1, 2, 3, 4], [2, 6]), ([0, 1, 2, 3, 4, 5, 6, 7], []), ([8, 5, 7, 0, 1, 2, 3, 4, 5, 6, 7], [5, 8])])
def conf_Clone.B1 : List Nat := [0, 1, 3, 0, 8, 31, 31, 127, 255, 511]
theorem conf_Clone.tab1 : rtab .any (opsOf Try.f22 1) = conf_Clone.T1 := by kernel_rfl
theorem conf_Clone.bits1 : waitsOk conf_Clone.T1.2 conf_Clone.B1 = true := by kernel_rfl
def conf_Clone.T6 : Bool × List (List Nat × List Nat) := (true, [([], []), ([], []), ([1], [1]), ([2], [2]), ([], []), ([4], [4]), ([5, 3], [5]), ([], []), ([7], [7]), ([8, 6], [8]), ([], []), ([10], [10]), ([3, 6, 9, 11], [3, 6, 9, 11]), ([12], [12]), ([0, 13, 9], [0, 13]), ([14, 14, 0, 1, 2, 3, 4, 5, 6, 7, 8, 9, 10, 11, 12, 13, 14], [0, 14])])
def conf_Clone.B6 : List Nat := [0, 0, 2, 6, 0, 16, 62, 0, 128, 510, 0, 1024, 4094, 8190, 16383, 32767]
theorem conf_Clone.tab6 : rtab .any (opsOf Try.f22 6) = conf_Clone.T6 := by kernel_rfl
theorem conf_Clone.bits6 : waitsOk conf_Clone.T6.2 conf_Clone.B6 = true := by kernel_rfl
set_option maxHeartbeats 8000000 in
set_option maxRecDepth 100000 in
theorem conf_Clone.calls (k : Nat) (a0_0 : Int) (a0_1 : Int) (A0_2 : Option Addr) (c0_2 : Nat) (l0_2 : List (S42)) (A0_3 : Option Addr) (c0_3 : Nat) (l0_3 : List (S49)) (A0_4 : Option Addr) (c0_4 : Nat) (l0_4 : List (S44)) (r1 : Int) (r2 : Int) (r3 : List (S42)) (r4 : List (S49)) (r5 : List (S44)) (w : World) (hr0_2 : Kd.C k42 w A0_2 l0_2.length l0_2) (hc0_2 : l0_2.length ≤ c0_2) (hr0_3 : Kd.C k49 w A0_3 l0_3.length l0_3) (hc0_3 : l0_3.length ≤ c0_3) (hr0_4 : Kd.C k44 w A0_4 l0_4.length l0_4) (hc0_4 : l0_4.length ≤ c0_4) (h : conf_Clone.f k a0_0 a0_1 l0_2 l0_3 l0_4 = some (r1, r2, r3, r4, r5)) :
  Calls Try.prog 22 #[.agg #[.int .i64 a0_0, .int .i64 a0_1, .slice A0_2 l0_2.length c0_2, .slice A0_3 l0_3.length c0_3, .slice A0_4 l0_4.length c0_4]] w fun e w' => ∃ v2_ v3_ v4_ : Value, e = .returned (.agg #[.int .i64 r1, .int .i64 r2, v2_, v3_, v4_]) ∧ Kd.R k42 42 w' w.heap.size (fun _ => True) v2_ r3 ∧ Kd.S k49 49 w' w.heap.size (fun _ => True) v3_ r4 ∧ Kd.R k44 44 w' w.heap.size (fun _ => True) v4_ r5 ∧ Below w.heap.size w w' := by
 have hu34 := Try.underlying34
 have hu49 := Try.underlying49
 have hu47 := Try.underlying47
 have HR0_2 := asd hr0_2
 have HC0_2 := asd hc0_2
 clear hr0_2 hc0_2
 have HR0_3 := asd hr0_3
 have HC0_3 := asd hc0_3
 clear hr0_3 hc0_3
 have HR0_4 := asd hr0_4
 have HC0_4 := asd hc0_4
 clear hr0_4 hc0_4
 have HB := asd (Below.refl w.heap.size w)
 have H : ((conf_Window_50.f l0_2).bind fun t205 => ((conf_Channel_51.f l0_4).bind fun t208 => (conf_Clone.l0 k ([] : List (S49)) l0_3 (l0_3.length : Int) 0 a0_0 a0_1 t205 l0_3 t208))) = some (r1, r2, r3, r4, r5) := h
 clear h
 replace H := Option.bind_eq_some_iff.mp H
 obtain ⟨t205, A20, H⟩ := H
 replace H : ((conf_Channel_51.f l0_4).bind fun t208 => (conf_Clone.l0 k ([] : List (S49)) l0_3 (l0_3.length : Int) 0 a0_0 a0_1 t205 l0_3 t208)) = some (r1, r2, r3, r4, r5) := H
 have A2 := asd A20
 clear A20
 replace H := Option.bind_eq_some_iff.mp H
 obtain ⟨t208, A30, H⟩ := H
 replace H : (conf_Clone.l0 k ([] : List (S49)) l0_3 (l0_3.length : Int) 0 a0_0 a0_1 t205 l0_3 t208) = some (r1, r2, r3, r4, r5) := H
 have A3 := asd A30
 clear A30
 have H' := asd H
 clear H
 go_enter Try.func22, Try.ntmps22
 try go_wp2_with (first | ((with_reducible refine gate_dst (N := 1) rfl ?_); refine box_event ?hg (N := 1) ?hd (cs := #[.int .i64 a0_0, .int .i64 a0_1, .slice A0_2 l0_2.length c0_2, .slice A0_3 l0_3.length c0_3, .slice A0_4 l0_4.length c0_4]) (t := 34) ?hr ?_; (case hd => rfl); (case hg => rfl); (case hr => first | (go_simp; done) | (go_simp; rfl)); intro gb203 hg w4 hbox hb; have n0_ := asd (below_step (by repeat (first | (with_reducible first | exact HB.out | apply wa | apply wn | apply wd) | exact HB.out)) hb); have n1_ := asd (hbox); have n2_ := asd ((by rw [hg]; exact (below_size (by repeat (first | (with_reducible first | exact HB.out | apply wa | apply wn | apply wd) | exact HB.out))) : w.heap.size ≤ gb203)); have n3_ := asd ((by rw [hg]; exact (below_size (by repeat (first | (with_reducible first | exact HB.out | apply wa | apply wn | apply wd) | exact HB.out))) : w.heap.size ≤ gb203)); clear HB; have HB := n0_; have BK203 := n1_; have GW203 := n2_; have GE203 := n3_; clear n0_ n1_ n2_ n3_; clear hb hbox hg) | ((with_reducible refine gate_dst (N := 2) rfl ?_); refine box_event ?hg (N := 2) ?hd (cs := #[.int .i64 0, .int .i64 0, .slice none 0 0, .slice none 0 0, .slice none 0 0]) (t := 34) ?hr ?_; (case hd => rfl); (case hg => rfl); (case hr => first | (go_simp; done) | (go_simp; rfl)); intro gb204 hg w5 hbox hb; have n0_ := asd (blk_below (g := gb203) (o := .cells #[.int .i64 a0_0, .int .i64 a0_1, .slice A0_2 l0_2.length c0_2, .slice A0_3 l0_3.length c0_3, .slice A0_4 l0_4.length c0_4] 34 (0, 0)) (by (with_reducible repeat first | apply bn | apply bd | apply ba); exact BK203.out) hb); have n1_ := asd (below_step (by repeat (first | (with_reducible first | exact HB.out | apply wa | apply wn | apply wd | refine ws ?_ GE203.out) | exact HB.out)) hb); have n2_ := asd (hbox); have n3_ := asd ((by rw [hg]; exact (below_size (by repeat (first | (with_reducible first | exact HB.out | apply wa | apply wn | apply wd | refine ws ?_ GE203.out) | exact HB.out))) : w.heap.size ≤ gb204)); have n4_ := asd ((by rw [hg]; exact (below_size (by repeat (first | (with_reducible first | exact HB.out | apply wa | apply wn | apply wd | refine ws ?_ GE203.out) | exact HB.out))) : w.heap.size ≤ gb204)); have n5_ := asd ((by rw [hg]; exact Nat.ne_of_lt (blk_lt (g := gb203) (o := .cells #[.int .i64 a0_0, .int .i64 a0_1, .slice A0_2 l0_2.length c0_2, .slice A0_3 l0_3.length c0_3, .slice A0_4 l0_4.length c0_4] 34 (0, 0)) (by (with_reducible repeat first | apply bn | apply bd | apply ba); exact BK203.out)) : gb203 ≠ gb204)); have n6_ := asd ((by rw [hg]; exact Nat.ne_of_gt (blk_lt (g := gb203) (o := .cells #[.int .i64 a0_0, .int .i64 a0_1, .slice A0_2 l0_2.length c0_2, .slice A0_3 l0_3.length c0_3, .slice A0_4 l0_4.length c0_4] 34 (0, 0)) (by (with_reducible repeat first | apply bn | apply bd | apply ba); exact BK203.out)) : gb204 ≠ gb203)); clear BK203; clear HB; have BK203 := n0_; have HB := n1_; have BK204 := n2_; have GW204 := n3_; have GE204 := n4_; have NB203_204 := n5_; have NB204_203 := n6_; clear n0_ n1_ n2_ n3_ n4_ n5_ n6_; clear hb hbox hg))
 have n0_ := asd (blk_drew BK203.out)
 have n1_ := asd (blk_drew BK204.out)
 have n2_ := asd (below_drew1 HB.out)
 clear BK203
 clear BK204
 clear HB
 have BK203 := n0_
 have BK204 := n1_
 have HB := n2_
 clear n0_ n1_ n2_
 refine start_ (n := 10) (S := fun w' => w'.cell? ⟨gb203, 0, none⟩ = some (.int .i64 a0_0) ∧ w'.cell? ⟨gb203, 1, none⟩ = some (.int .i64 a0_1) ∧ w'.cell? ⟨gb203, 2, none⟩ = some (.slice A0_2 l0_2.length c0_2) ∧ w'.cell? ⟨gb203, 3, none⟩ = some (.slice A0_3 l0_3.length c0_3) ∧ w'.cell? ⟨gb203, 4, none⟩ = some (.slice A0_4 l0_4.length c0_4)) (ds := [7, 9]) #[false, false, false, false, false, false, false, false, false, false] (by kernel_rfl) rfl rfl ⟨(blk_cell BK203.out 0).trans rfl, (blk_cell BK203.out 1).trans rfl, (blk_cell BK203.out 2).trans rfl, (blk_cell BK203.out 3).trans rfl, (blk_cell BK203.out 4).trans rfl⟩ (fun hHeld => ?_); refine with_tabW conf_Clone.tab1 conf_Clone.bits1 (fun HT_ HW_ => ?_)
 generalize w5.drew = w6 at BK203 BK204 HB hHeld ⊢
 refine pure_ (i := 0) (N := some 6) (v := ?_) (a' := ?_) #[true, false, false, false, false, false, false, false, false, false] rfl rfl (any_of HT_.out (by kernel_rfl)) (fun _ _ _ h => h) (Or.inl ⟨by rfl, ?_⟩) ?_ ?_
 rotate_left
 ·intro w'
  go_simp
  with_reducible rfl
 rotate_left
 ·simp only [Act.put, sB, i64_w, i32_w]
  rfl
 refine pure_ (i := 3) (N := some 9) (v := ?_) (a' := ?_) #[true, false, false, true, false, false, false, false, false, false] rfl rfl (any_of HT_.out (by kernel_rfl)) (fun _ _ _ h => h) (Or.inl ⟨by rfl, ?_⟩) ?_ ?_
 rotate_left
 ·intro w'
  go_simp
  with_reducible rfl
 rotate_left
 ·simp only [Act.put, sB, i64_w, i32_w]
  rfl
 refine take_ (i := 1) (N := some 7) (v := ?_) (a' := ?_) #[true, true, false, true, false, false, false, false, false, false] rfl rfl (take_ofW HT_.out HW_.out (by kernel_rfl)) (fun _ _ _ h => h) (Or.inl ⟨by rfl, ?_⟩) hHeld ?_ ?_
 rotate_left
 ·rintro w' ⟨s0, s1, s2, s3, s4⟩
  go_simp
  with_reducible rfl
 rotate_left
 ·simp only [Act.put, sB, i64_w, i32_w]
  rfl
 refine take_ (i := 4) (N := some 10) (v := ?_) (a' := ?_) #[true, true, false, true, true, false, false, false, false, false] rfl rfl (take_ofW HT_.out HW_.out (by kernel_rfl)) (fun _ _ _ h => h) (Or.inl ⟨by rfl, ?_⟩) hHeld ?_ ?_
 rotate_left
 ·rintro w' ⟨s0, s1, s2, s3, s4⟩
  go_simp
  with_reducible rfl
 rotate_left
 ·simp only [Act.put, sB, i64_w, i32_w]
  rfl
 refine one_ (i := 2) (N := some 8) #[true, true, true, true, true, false, false, false, false, false] rfl rfl (one_of HT_.out (by kernel_rfl)) (by decide) (fun K hK => ?_)
 refine goes_ Try.func50 (by kernel_rfl) rfl #[.slice A0_2 l0_2.length c0_2] (by rfl) rfl rfl (by (try simp only [List.map_toArray, List.map_cons, List.map_nil]); first | done | rfl | (simp only [List.length_drop, List.length_take]; rfl)) ?_
 with_reducible refine (conf_Window_50.calls _ _ l0_2 t205 _ ?side1 ?side2 A2.out).mono ?_
 (case side1 => repeat (first | exact (Kd.C_below HR0_2.out HB.out) | (with_reducible refine Kd.C_alloc ?_ _) | (with_reducible refine Kd.C_drewN ?_ _) | (with_reducible refine Kd.C_drew ?_)))
 (case side2 => exact HC0_2.out)
 rintro e w7 ⟨v206, rfl, ho0, hb⟩
 refine ⟨_, rfl, ?_⟩
 have n0_ := asd (Kd.R_lower ho0 (below_size (by repeat (first | (with_reducible first | exact HB.out | apply wa | apply wn | apply wd | refine ws ?_ GE203.out | refine ws ?_ GE204.out) | exact HB.out))))
 have n1_ := asd (blk_below (g := gb203) (o := .cells #[.int .i64 a0_0, .int .i64 a0_1, .slice A0_2 l0_2.length c0_2, .slice A0_3 l0_3.length c0_3, .slice A0_4 l0_4.length c0_4] 34 (0, 0)) (by (with_reducible repeat first | apply bn | apply bd | apply ba); exact BK203.out) hb)
 have n2_ := asd (blk_below (g := gb204) (o := .cells #[.int .i64 0, .int .i64 0, .slice none 0 0, .slice none 0 0, .slice none 0 0] 34 (0, 0)) (by (with_reducible repeat first | apply bn | apply bd | apply ba); exact BK204.out) hb)
 have n3_ := asd (below_step (by repeat (first | (with_reducible first | exact HB.out | apply wa | apply wn | apply wd | refine ws ?_ GE203.out | refine ws ?_ GE204.out) | exact HB.out)) hb)
 clear BK203
 clear BK204
 clear HB
 have HO207 := n0_
 have BK203 := n1_
 have BK204 := n2_
 have HB := n3_
 clear n0_ n1_ n2_ n3_
 (try clear hb)
 (try clear hb2)
 (try clear hk)
 (try clear hi)
 (try clear ho0)
 refine hK.out _ _ ⟨(blk_cell BK203.out 0).trans rfl, (blk_cell BK203.out 1).trans rfl, (blk_cell BK203.out 2).trans rfl, (blk_cell BK203.out 3).trans rfl, (blk_cell BK203.out 4).trans rfl⟩ (fun hHeld => ?_)
 clear hK K
 refine norm_ (a' := ?_) ?_ ?_
 rotate_left
 ·show Act.put _ (some 8) _ = _
  simp only [Act.put, sB, i64_w, i32_w]
  rfl
 refine pure_ (i := 6) (N := some 12) (v := ?_) (a' := ?_) #[true, true, true, true, true, false, true, false, false, false] rfl rfl (any_of HT_.out (by kernel_rfl)) (fun _ _ _ h => h) (Or.inl ⟨by rfl, ?_⟩) ?_ ?_
 rotate_left
 ·intro w'
  go_simp
  with_reducible rfl
 rotate_left
 ·simp only [Act.put, sB, i64_w, i32_w]
  rfl
 refine one_ (i := 5) (N := some 11) #[true, true, true, true, true, true, true, false, false, false] rfl rfl (one_of HT_.out (by kernel_rfl)) (by decide) (fun K hK => ?_)
 refine goes_ Try.func51 (by kernel_rfl) rfl #[.slice A0_4 l0_4.length c0_4] (by rfl) rfl rfl (by (try simp only [List.map_toArray, List.map_cons, List.map_nil]); first | done | rfl | (simp only [List.length_drop, List.length_take]; rfl)) ?_
 with_reducible refine (conf_Channel_51.calls _ _ l0_4 t208 _ ?side1 ?side2 A3.out).mono ?_
 (case side1 => repeat (first | exact (Kd.C_below HR0_4.out HB.out) | (with_reducible refine Kd.C_alloc ?_ _) | (with_reducible refine Kd.C_drewN ?_ _) | (with_reducible refine Kd.C_drew ?_)))
 (case side2 => exact HC0_4.out)
 rintro e w8 ⟨v209, rfl, ho0, hb⟩
 refine ⟨_, rfl, ?_⟩
 have n0_ := asd (Kd.R_below (by (with_reducible repeat (first | apply Kd.R_alloc | apply Kd.R_drewN | apply Kd.R_drew)); exact HO207.out) hb)
 have n1_ := asd (Kd.R_lower ho0 (below_size (by repeat (first | (with_reducible first | exact HB.out | apply wa | apply wn | apply wd | refine ws ?_ GE203.out | refine ws ?_ GE204.out) | exact HB.out))))
 have n2_ := asd (blk_below (g := gb203) (o := .cells #[.int .i64 a0_0, .int .i64 a0_1, .slice A0_2 l0_2.length c0_2, .slice A0_3 l0_3.length c0_3, .slice A0_4 l0_4.length c0_4] 34 (0, 0)) (by (with_reducible repeat first | apply bn | apply bd | apply ba); exact BK203.out) hb)
 have n3_ := asd (blk_below (g := gb204) (o := .cells #[.int .i64 0, .int .i64 0, .slice none 0 0, .slice none 0 0, .slice none 0 0] 34 (0, 0)) (by (with_reducible repeat first | apply bn | apply bd | apply ba); exact BK204.out) hb)
 have n4_ := asd (below_step (by repeat (first | (with_reducible first | exact HB.out | apply wa | apply wn | apply wd | refine ws ?_ GE203.out | refine ws ?_ GE204.out) | exact HB.out)) hb)
 clear HO207
 clear BK203
 clear BK204
 clear HB
 have HO207 := n0_
 have HO210 := n1_
 have BK203 := n2_
 have BK204 := n3_
 have HB := n4_
 clear n0_ n1_ n2_ n3_ n4_
 (try clear hb)
 (try clear hb2)
 (try clear hk)
 (try clear hi)
 (try clear ho0)
 obtain ⟨Ao9, co9, eo9⟩ := Kd.R_slice HO207.out
 (first | subst eo9 | (injection eo9 with f1_ f2_ f3_; have f4_ := f1_.symm; have f5_ := f3_.symm; clear f1_ f2_ f3_; subst f4_; subst f5_))
 obtain ⟨Ao11, co11, eo11⟩ := Kd.R_slice HO210.out
 (first | subst eo11 | (injection eo11 with f1_ f2_ f3_; have f4_ := f1_.symm; have f5_ := f3_.symm; clear f1_ f2_ f3_; subst f4_; subst f5_))
 refine hK.out _ _ ⟨(blk_cell BK203.out 0).trans rfl, (blk_cell BK203.out 1).trans rfl, (blk_cell BK203.out 2).trans rfl, (blk_cell BK203.out 3).trans rfl, (blk_cell BK203.out 4).trans rfl⟩ (fun hHeld => ?_)
 clear hK K
 refine norm_ (a' := ?_) ?_ ?_
 rotate_left
 ·show Act.put _ (some 11) _ = _
  simp only [Act.put, sB, i64_w, i32_w]
  rfl
 refine last_ (i := 7) (N := none) #[true, true, true, true, true, true, true, true, false, false] rfl rfl (one_of HT_.out (by kernel_rfl)) (by decide) (fun K hK => ?_)
 have hs10 : w8.cell? ⟨gb203, 2, none⟩ = some (.slice A0_2 l0_2.length c0_2) := (blk_cell BK203.out 2).trans rfl
 have hfs10 := blk_frozen BK203.out 2
 have hns10_1 := NB204_203.out
 have hms10_1 := NB203_204.out
 refine skip_ (w1 := ?_) (by rfl) rfl ?_ ?_
 rotate_left
 ·go_simp
  rfl
 refine hK.out _ _ ?_
 clear hK K
 refine pure_ (i := 8) (N := some 13) (v := ?_) (a' := ?_) #[true, true, true, true, true, true, true, true, true, false] rfl rfl (any_of HT_.out (by kernel_rfl)) (fun _ _ _ h => h) (Or.inl ⟨by rfl, ?_⟩) ?_ ?_
 rotate_left
 ·intro w'
  go_simp
  with_reducible rfl
 rotate_left
 ·simp only [Act.put, sB, i64_w, i32_w]
  rfl
 refine last_ (i := 9) (N := none) #[true, true, true, true, true, true, true, true, true, true] rfl rfl (one_of HT_.out (by kernel_rfl)) (by decide) (fun K hK => ?_)
 have hs12 : w8.cell? ⟨gb203, 4, none⟩ = some (.slice A0_4 l0_4.length c0_4) := (blk_cell BK203.out 4).trans rfl
 have hfs12 := blk_frozen BK203.out 4
 have hns12_1 := NB204_203.out
 have hms12_1 := NB203_204.out
 refine skip_ (w1 := ?_) (by rfl) rfl ?_ ?_
 rotate_left
 ·go_simp
  rfl
 refine hK.out _ _ ?_
 clear hK K
 refine done_ (done_of HT_.out (by kernel_rfl)) ?_
 have hnb13 := NB203_204.out
 have hnc13 := NB204_203.out
 have hcz14_0 : w8.cell? ⟨gb203, 0, none⟩ = some (.int .i64 a0_0) := (blk_cell BK203.out 0).trans rfl
 have hcz14_1 : w8.cell? ⟨gb203, 1, none⟩ = some (.int .i64 a0_1) := (blk_cell BK203.out 1).trans rfl
 have hcz14_2 : w8.cell? ⟨gb203, 2, none⟩ = some (.slice A0_2 l0_2.length c0_2) := (blk_cell BK203.out 2).trans rfl
 have hcz14_3 : w8.cell? ⟨gb203, 3, none⟩ = some (.slice A0_3 l0_3.length c0_3) := (blk_cell BK203.out 3).trans rfl
 have hcz14_4 : w8.cell? ⟨gb203, 4, none⟩ = some (.slice A0_4 l0_4.length c0_4) := (blk_cell BK203.out 4).trans rfl
 have hfz14_0 := blk_frozen BK203.out 0
 have hfz14_1 := blk_frozen BK203.out 1
 have hfz14_2 := blk_frozen BK203.out 2
 have hfz14_3 := blk_frozen BK203.out 3
 have hfz14_4 := blk_frozen BK203.out 4
 try go_wp2
 go_loopg [3, 17] k (fun kq v3 v17 w' => ∃ (x3_1 : List (S49)) (x17_1 : Int), v17 = .int .i64 x17_1 ∧ Aside0 (conf_Clone.l0 kq x3_1 l0_3 (l0_3.length : Int) x17_1 a0_0 a0_1 t205 l0_3 t208 = some (r1, r2, r3, r4, r5)) ∧ Aside0 (kq ≤ k) ∧ Aside0 (Kd.S k49 49 w' w.heap.size (fun _ => True) v3 x3_1) ∧ Aside0 (Kd.R k42 42 w' w.heap.size (fun _ => True) (.slice Ao9 t205.length co9) t205) ∧ Aside0 (Kd.R k44 44 w' w.heap.size (fun _ => True) (.slice Ao11 t208.length co11) t208) ∧ Aside0 (w'.heap[gb203]? = some (.cells #[.int .i64 a0_0, .int .i64 a0_1, (.slice Ao9 t205.length co9), (.slice A0_3 l0_3.length c0_3), (.slice Ao11 t208.length co11)] 34 (0, 0))) ∧ Aside0 (w'.heap[gb204]? = some (.cells #[.int .i64 0, .int .i64 0, (.slice none 0 0), (.slice none 0 0), (.slice none 0 0)] 34 (0, 0))) ∧ Aside0 (Below w.heap.size w w'))
 case atStart => exact ⟨(([] : List (S49))), (0), (by first | rfl | (simp; done) | (simp [*]; done)), H', ⟨Nat.le_refl _⟩, ⟨by first | exact Kd.S_nil _ _ _ _ _ | exact Kd.N_nil _ _ _ _ _ | exact Kd.V_nil _ _ _ _ _ | exact Kd.Q_nil _ _ _ _ _ | exact Kd.R_nil _ _ _ _ _⟩, ⟨by (with_reducible repeat (first | apply Kd.R_alloc | apply Kd.R_drewN | apply Kd.R_drew)); exact Kd.R_mono (Kd.R_far (p := ⟨gb203, 4, none⟩) (Kd.R_far (p := ⟨gb203, 2, none⟩) (Kd.R_types HO207.out BK203.out (by decide)) (fun _ hk => hk.2) (.slice Ao9 t205.length co9)) (fun _ hk => hk.2) (.slice Ao11 t208.length co11)) (fun _ hk => trivial)⟩, ⟨by (with_reducible repeat (first | apply Kd.R_alloc | apply Kd.R_drewN | apply Kd.R_drew)); exact Kd.R_mono (Kd.R_far (p := ⟨gb203, 4, none⟩) (Kd.R_far (p := ⟨gb203, 2, none⟩) (Kd.R_types HO210.out BK203.out (by decide)) (fun _ hk => hk.2) (.slice Ao9 t205.length co9)) (fun _ hk => hk.2) (.slice Ao11 t208.length co11)) (fun _ hk => trivial)⟩, ⟨by (with_reducible repeat first | apply bn | apply bd | apply ba); refine blk_put (cs := #[.int .i64 a0_0, .int .i64 a0_1, .slice Ao9 t205.length co9, .slice A0_3 l0_3.length c0_3, .slice A0_4 l0_4.length c0_4]) ?_ 4 _ rfl; (with_reducible repeat first | apply bn | apply bd | apply ba); refine blk_put (cs := #[.int .i64 a0_0, .int .i64 a0_1, .slice A0_2 l0_2.length c0_2, .slice A0_3 l0_3.length c0_3, .slice A0_4 l0_4.length c0_4]) ?_ 2 _ rfl; (with_reducible repeat first | apply bn | apply bd | apply ba); exact BK203.out⟩, ⟨by (with_reducible repeat first | apply bn | apply bd | apply ba); refine blk_far ?_ NB204_203.out _; (with_reducible repeat first | apply bn | apply bd | apply ba); refine blk_far ?_ NB204_203.out _; (with_reducible repeat first | apply bn | apply bd | apply ba); exact BK204.out⟩, ⟨by repeat (first | (with_reducible first | exact HB.out | apply wa | apply wn | apply wd | refine ws ?_ GE203.out | refine ws ?_ GE204.out) | exact HB.out)⟩⟩
 case round =>
  clear H'
  try clear c1
  try clear c2
  try clear p2
  try clear c5
  try clear c13
  try clear hcz14_0
  try clear hcz14_1
  try clear hcz14_2
  try clear hcz14_3
  try clear hcz14_4
  try clear hfz14_0
  try clear hfz14_1
  try clear hfz14_2
  try clear hfz14_3
  try clear hfz14_4
  obtain ⟨x3_1, x17_1, rfl, HA, HK1, HO_3, HO_204002, HO_204004, BK203, BK204, HB⟩ := hrel
  cases gk with
  | zero => exact absurd HA.out (by simp [conf_Clone.l0])
  | succ k1 =>
   have H := HA.out
   clear HA
   simp only [conf_Clone.l0] at H
   by_cases c15 : x17_1 < (l0_3.length : Int)
   ·rw [if_pos c15] at H
    have c15b0 : decide (x17_1 < (l0_3.length : Int)) = true := decide_eq_true c15
    clear c15
    by_cases c16 : 0 ≤ x17_1
    ·rw [if_pos c16] at H
     have c16b0 : decide (0 ≤ x17_1) = true := decide_eq_true c16
     clear c16
     by_cases c17 : x17_1 < (l0_3.length : Int)
     ·rw [if_pos c17] at H
      have c17b0 : decide (x17_1 < (l0_3.length : Int)) = true := decide_eq_true c17
      clear c17
      replace H := Option.bind_eq_some_iff.mp H
      obtain ⟨t213, A180, H⟩ := H
      replace H : ((conf_Server_53.f ((rd_T49 l0_3 x17_1).f1)).bind fun t216 => ((slices_Clone_int_int.f ((rd_T49 l0_3 x17_1).f2)).bind fun t219 => (if x3_1.length < 1759218604441 then (conf_Clone.l0 k1 (x3_1 ++ [(⟨t213, t216, t219, (⟨(rd_T49 l0_3 x17_1).f3.f0, (rd_T49 l0_3 x17_1).f3.f1, (rd_T49 l0_3 x17_1).f3.f2⟩ : S47)⟩ : S49)]) l0_3 (l0_3.length : Int) (wrap64 (x17_1 + 1)) a0_0 a0_1 t205 l0_3 t208) else (none)))) = some (r1, r2, r3, r4, r5) := H
      have A18 := asd A180
      clear A180
      replace H := Option.bind_eq_some_iff.mp H
      obtain ⟨t216, A190, H⟩ := H
      replace H : ((slices_Clone_int_int.f ((rd_T49 l0_3 x17_1).f2)).bind fun t219 => (if x3_1.length < 1759218604441 then (conf_Clone.l0 k1 (x3_1 ++ [(⟨t213, t216, t219, (⟨(rd_T49 l0_3 x17_1).f3.f0, (rd_T49 l0_3 x17_1).f3.f1, (rd_T49 l0_3 x17_1).f3.f2⟩ : S47)⟩ : S49)]) l0_3 (l0_3.length : Int) (wrap64 (x17_1 + 1)) a0_0 a0_1 t205 l0_3 t208) else (none))) = some (r1, r2, r3, r4, r5) := H
      have A19 := asd A190
      clear A190
      replace H := Option.bind_eq_some_iff.mp H
      obtain ⟨t219, A200, H⟩ := H
      replace H : (if x3_1.length < 1759218604441 then (conf_Clone.l0 k1 (x3_1 ++ [(⟨t213, t216, t219, (⟨(rd_T49 l0_3 x17_1).f3.f0, (rd_T49 l0_3 x17_1).f3.f1, (rd_T49 l0_3 x17_1).f3.f2⟩ : S47)⟩ : S49)]) l0_3 (l0_3.length : Int) (wrap64 (x17_1 + 1)) a0_0 a0_1 t205 l0_3 t208) else (none)) = some (r1, r2, r3, r4, r5) := H
      have A20 := asd A200
      clear A200
      by_cases c21 : x3_1.length < 1759218604441
      ·rw [if_pos c21] at H
       have LMc21 := asd c21
       clear c21
       obtain ⟨y222, hy222⟩ : ∃ y_ : List (S49), y_ = (x3_1 ++ [(⟨t213, t216, t219, (⟨(rd_T49 l0_3 x17_1).f3.f0, (rd_T49 l0_3 x17_1).f3.f1, (rd_T49 l0_3 x17_1).f3.f2⟩ : S47)⟩ : S49)]) := ⟨_, rfl⟩
       replace H : (conf_Clone.l0 k1 y222 l0_3 (l0_3.length : Int) (wrap64 (x17_1 + 1)) a0_0 a0_1 t205 l0_3 t208) = some (r1, r2, r3, r4, r5) := by first | (rw [hy222]; with_reducible exact H) | (have H2_ := (Option.bind_some _ _).symm.trans H; rw [hy222]; with_reducible exact H2_) | (have H2_ := (Option.bind_some _ _).symm.trans H; with_reducible exact H2_) | with_reducible exact H | (rw [hy222]; exact H) | exact H
       have Ny222 := asd hy222
       clear hy222
       have H' := asd H
       clear H
       have p211 : 0 ≤ (x17_1 : Int) := of_decide_eq_true (by assumption)
       have q211 : x17_1 < (l0_3.length : Int) := of_decide_eq_true (by assumption)
       obtain ⟨ad211, A211_0, c211_0, A211_1, c211_1, A211_2, c211_2, e211, hx211_0, hx211_1, hx211_2, hx211_3, hx211_4, hx211_5, hl211_0, hi211_0, hl211_1, hi211_1, hl211_2, hi211_2⟩ := at_T49 HR0_3.out x17_1 p211 q211
       cases e211
       replace hx211_0 := (HB.out.cell (World.block_lt_of_cell? w _ hx211_0)).trans hx211_0
       replace hx211_1 := (HB.out.cell (World.block_lt_of_cell? w _ hx211_1)).trans hx211_1
       replace hx211_2 := (HB.out.cell (World.block_lt_of_cell? w _ hx211_2)).trans hx211_2
       replace hx211_3 := (HB.out.cell (World.block_lt_of_cell? w _ hx211_3)).trans hx211_3
       replace hx211_4 := (HB.out.cell (World.block_lt_of_cell? w _ hx211_4)).trans hx211_4
       replace hx211_5 := (HB.out.cell (World.block_lt_of_cell? w _ hx211_5)).trans hx211_5
       have HR211_0 := asd hi211_0
       have HC211_0 := asd hl211_0
       clear hi211_0 hl211_0
       have HR211_1 := asd hi211_1
       have HC211_1 := asd hl211_1
       clear hi211_1 hl211_1
       have HR211_2 := asd hi211_2
       have HC211_2 := asd hl211_2
       clear hi211_2 hl211_2
       replace p211 := eq_true p211
       replace q211 := eq_true q211
       try go_wp2_with (first | ((with_reducible refine gate_dst (N := 5) rfl ?_); refine box_event ?hg (N := 5) ?hd (cs := #[.slice none 0 0, .slice none 0 0, .slice none 0 0, .int .u8 0, .int .u8 0, .int .u8 0]) (t := 49) ?hr ?_; (case hd => rfl); (case hg => rfl); (case hr => first | (go_simp; done) | (go_simp; rfl)); intro gb212 hg w22 hbox hb; have n0_ := asd (Kd.S_below (Kd.S_elderB (by (with_reducible repeat (first | apply Kd.S_alloc | apply Kd.S_drewN | apply Kd.S_drew)); exact HO_3.out) gb212 (Nat.le_of_eq hg.symm)) hb); have n1_ := asd (Kd.R_below (by (with_reducible repeat (first | apply Kd.R_alloc | apply Kd.R_drewN | apply Kd.R_drew)); exact HO_204002.out) hb); have n2_ := asd (Kd.R_below (by (with_reducible repeat (first | apply Kd.R_alloc | apply Kd.R_drewN | apply Kd.R_drew)); exact HO_204004.out) hb); have n3_ := asd (blk_below (g := gb203) (o := .cells #[.int .i64 a0_0, .int .i64 a0_1, .slice Ao9 t205.length co9, .slice (some ad211) l0_3.length c0_3, .slice Ao11 t208.length co11] 34 (0, 0)) (by (with_reducible repeat first | apply bn | apply bd | apply ba); exact BK203.out) hb); have n4_ := asd (blk_below (g := gb204) (o := .cells #[.int .i64 0, .int .i64 0, .slice none 0 0, .slice none 0 0, .slice none 0 0] 34 (0, 0)) (by (with_reducible repeat first | apply bn | apply bd | apply ba); exact BK204.out) hb); have n5_ := asd (below_step (by repeat (first | (with_reducible first | exact HB.out | apply wa | apply wn | apply wd | refine ws ?_ GE203.out | refine ws ?_ GE204.out) | exact HB.out)) hb); have n6_ := asd (hbox); have n7_ := asd ((by rw [hg]; exact (below_size (by repeat (first | (with_reducible first | exact HB.out | apply wa | apply wn | apply wd | refine ws ?_ GE203.out | refine ws ?_ GE204.out) | exact HB.out))) : w.heap.size ≤ gb212)); have n8_ := asd ((by rw [hg]; exact (below_size (by repeat (first | (with_reducible first | exact HB.out | apply wa | apply wn | apply wd | refine ws ?_ GE203.out | refine ws ?_ GE204.out) | exact HB.out))) : w.heap.size ≤ gb212)); have n9_ := asd ((by rw [hg]; exact Nat.ne_of_lt (blk_lt (g := gb203) (o := .cells #[.int .i64 a0_0, .int .i64 a0_1, .slice Ao9 t205.length co9, .slice (some ad211) l0_3.length c0_3, .slice Ao11 t208.length co11] 34 (0, 0)) (by (with_reducible repeat first | apply bn | apply bd | apply ba); exact BK203.out)) : gb203 ≠ gb212)); have n10_ := asd ((by rw [hg]; exact Nat.ne_of_gt (blk_lt (g := gb203) (o := .cells #[.int .i64 a0_0, .int .i64 a0_1, .slice Ao9 t205.length co9, .slice (some ad211) l0_3.length c0_3, .slice Ao11 t208.length co11] 34 (0, 0)) (by (with_reducible repeat first | apply bn | apply bd | apply ba); exact BK203.out)) : gb212 ≠ gb203)); have n11_ := asd ((by rw [hg]; exact Nat.ne_of_lt (blk_lt (g := gb204) (o := .cells #[.int .i64 0, .int .i64 0, .slice none 0 0, .slice none 0 0, .slice none 0 0] 34 (0, 0)) (by (with_reducible repeat first | apply bn | apply bd | apply ba); exact BK204.out)) : gb204 ≠ gb212)); have n12_ := asd ((by rw [hg]; exact Nat.ne_of_gt (blk_lt (g := gb204) (o := .cells #[.int .i64 0, .int .i64 0, .slice none 0 0, .slice none 0 0, .slice none 0 0] 34 (0, 0)) (by (with_reducible repeat first | apply bn | apply bd | apply ba); exact BK204.out)) : gb212 ≠ gb204)); clear HO_3; clear HO_204002; clear HO_204004; clear BK203; clear BK204; clear HB; have HO_3 := n0_; have HO_204002 := n1_; have HO_204004 := n2_; have BK203 := n3_; have BK204 := n4_; have HB := n5_; have BK212 := n6_; have GW212 := n7_; have GE212 := n8_; have NB203_212 := n9_; have NB212_203 := n10_; have NB204_212 := n11_; have NB212_204 := n12_; clear n0_ n1_ n2_ n3_ n4_ n5_ n6_ n7_ n8_ n9_ n10_ n11_ n12_; clear hb hbox hg; have hnb23 := NB212_203.out; have hnc23 := NB203_212.out; have hnb24 := NB212_204.out; have hnc24 := NB204_212.out; have hcz25_0 : w22.cell? ⟨gb212, 0, none⟩ = some (.slice none 0 0) := (blk_cell BK212.out 0).trans rfl; have hcz25_1 : w22.cell? ⟨gb212, 1, none⟩ = some (.slice none 0 0) := (blk_cell BK212.out 1).trans rfl; have hcz25_2 : w22.cell? ⟨gb212, 2, none⟩ = some (.slice none 0 0) := (blk_cell BK212.out 2).trans rfl; have hcz25_3 : w22.cell? ⟨gb212, 3, none⟩ = some (.int .u8 0) := (blk_cell BK212.out 3).trans rfl; have hcz25_4 : w22.cell? ⟨gb212, 4, none⟩ = some (.int .u8 0) := (blk_cell BK212.out 4).trans rfl; have hcz25_5 : w22.cell? ⟨gb212, 5, none⟩ = some (.int .u8 0) := (blk_cell BK212.out 5).trans rfl; have hfz25_0 := blk_frozen BK212.out 0; have hfz25_1 := blk_frozen BK212.out 1; have hfz25_2 := blk_frozen BK212.out 2; have hfz25_3 := blk_frozen BK212.out 3; have hfz25_4 := blk_frozen BK212.out 4; have hfz25_5 := blk_frozen BK212.out 5))
       have n0_ : Aside0 (Kd.S k49 49 ((((((w22.setCell ⟨gb212, 0, none⟩ (.slice A211_0 ((rd_T49 l0_3 x17_1).f0).length c211_0)).setCell ⟨gb212, 1, none⟩ (.slice A211_1 ((rd_T49 l0_3 x17_1).f1).length c211_1)).setCell ⟨gb212, 2, none⟩ (.slice A211_2 ((rd_T49 l0_3 x17_1).f2).length c211_2)).setCell ⟨gb212, 3, none⟩ (.int .u8 ((rd_T49 l0_3 x17_1).f3.f0))).setCell ⟨gb212, 4, none⟩ (.int .u8 ((rd_T49 l0_3 x17_1).f3.f1))).setCell ⟨gb212, 5, none⟩ (.int .u8 ((rd_T49 l0_3 x17_1).f3.f2))) w.heap.size (fun k_ => k_ ≠ gb212) u3 x3_1) := ⟨by (with_reducible repeat (first | apply Kd.S_alloc | apply Kd.S_drewN | apply Kd.S_drew)); exact Kd.S_mono (Kd.S_far (p := ⟨gb212, 5, none⟩) (Kd.S_far (p := ⟨gb212, 4, none⟩) (Kd.S_far (p := ⟨gb212, 3, none⟩) (Kd.S_far (p := ⟨gb212, 2, none⟩) (Kd.S_far (p := ⟨gb212, 1, none⟩) (Kd.S_far (p := ⟨gb212, 0, none⟩) (Kd.S_mono HO_3.out (fun k_ hk => (⟨hk, hk.2⟩ : _ ∧ k_ ≠ gb212))) (fun _ hk => hk.2) (.slice A211_0 ((rd_T49 l0_3 x17_1).f0).length c211_0)) (fun _ hk => hk.2) (.slice A211_1 ((rd_T49 l0_3 x17_1).f1).length c211_1)) (fun _ hk => hk.2) (.slice A211_2 ((rd_T49 l0_3 x17_1).f2).length c211_2)) (fun _ hk => hk.2) (.int .u8 ((rd_T49 l0_3 x17_1).f3.f0))) (fun _ hk => hk.2) (.int .u8 ((rd_T49 l0_3 x17_1).f3.f1))) (fun _ hk => hk.2) (.int .u8 ((rd_T49 l0_3 x17_1).f3.f2))) (fun _ hk => hk.1.2)⟩
       have n1_ : Aside0 (Kd.R k42 42 ((((((w22.setCell ⟨gb212, 0, none⟩ (.slice A211_0 ((rd_T49 l0_3 x17_1).f0).length c211_0)).setCell ⟨gb212, 1, none⟩ (.slice A211_1 ((rd_T49 l0_3 x17_1).f1).length c211_1)).setCell ⟨gb212, 2, none⟩ (.slice A211_2 ((rd_T49 l0_3 x17_1).f2).length c211_2)).setCell ⟨gb212, 3, none⟩ (.int .u8 ((rd_T49 l0_3 x17_1).f3.f0))).setCell ⟨gb212, 4, none⟩ (.int .u8 ((rd_T49 l0_3 x17_1).f3.f1))).setCell ⟨gb212, 5, none⟩ (.int .u8 ((rd_T49 l0_3 x17_1).f3.f2))) w.heap.size (fun _ => True) (.slice Ao9 t205.length co9) t205) := ⟨by (with_reducible repeat (first | apply Kd.R_alloc | apply Kd.R_drewN | apply Kd.R_drew)); exact Kd.R_mono (Kd.R_far (p := ⟨gb212, 5, none⟩) (Kd.R_far (p := ⟨gb212, 4, none⟩) (Kd.R_far (p := ⟨gb212, 3, none⟩) (Kd.R_far (p := ⟨gb212, 2, none⟩) (Kd.R_far (p := ⟨gb212, 1, none⟩) (Kd.R_far (p := ⟨gb212, 0, none⟩) (Kd.R_types HO_204002.out BK212.out (by decide)) (fun _ hk => hk.2) (.slice A211_0 ((rd_T49 l0_3 x17_1).f0).length c211_0)) (fun _ hk => hk.2) (.slice A211_1 ((rd_T49 l0_3 x17_1).f1).length c211_1)) (fun _ hk => hk.2) (.slice A211_2 ((rd_T49 l0_3 x17_1).f2).length c211_2)) (fun _ hk => hk.2) (.int .u8 ((rd_T49 l0_3 x17_1).f3.f0))) (fun _ hk => hk.2) (.int .u8 ((rd_T49 l0_3 x17_1).f3.f1))) (fun _ hk => hk.2) (.int .u8 ((rd_T49 l0_3 x17_1).f3.f2))) (fun _ hk => trivial)⟩
       have n2_ : Aside0 (Kd.R k44 44 ((((((w22.setCell ⟨gb212, 0, none⟩ (.slice A211_0 ((rd_T49 l0_3 x17_1).f0).length c211_0)).setCell ⟨gb212, 1, none⟩ (.slice A211_1 ((rd_T49 l0_3 x17_1).f1).length c211_1)).setCell ⟨gb212, 2, none⟩ (.slice A211_2 ((rd_T49 l0_3 x17_1).f2).length c211_2)).setCell ⟨gb212, 3, none⟩ (.int .u8 ((rd_T49 l0_3 x17_1).f3.f0))).setCell ⟨gb212, 4, none⟩ (.int .u8 ((rd_T49 l0_3 x17_1).f3.f1))).setCell ⟨gb212, 5, none⟩ (.int .u8 ((rd_T49 l0_3 x17_1).f3.f2))) w.heap.size (fun _ => True) (.slice Ao11 t208.length co11) t208) := ⟨by (with_reducible repeat (first | apply Kd.R_alloc | apply Kd.R_drewN | apply Kd.R_drew)); exact Kd.R_mono (Kd.R_far (p := ⟨gb212, 5, none⟩) (Kd.R_far (p := ⟨gb212, 4, none⟩) (Kd.R_far (p := ⟨gb212, 3, none⟩) (Kd.R_far (p := ⟨gb212, 2, none⟩) (Kd.R_far (p := ⟨gb212, 1, none⟩) (Kd.R_far (p := ⟨gb212, 0, none⟩) (Kd.R_types HO_204004.out BK212.out (by decide)) (fun _ hk => hk.2) (.slice A211_0 ((rd_T49 l0_3 x17_1).f0).length c211_0)) (fun _ hk => hk.2) (.slice A211_1 ((rd_T49 l0_3 x17_1).f1).length c211_1)) (fun _ hk => hk.2) (.slice A211_2 ((rd_T49 l0_3 x17_1).f2).length c211_2)) (fun _ hk => hk.2) (.int .u8 ((rd_T49 l0_3 x17_1).f3.f0))) (fun _ hk => hk.2) (.int .u8 ((rd_T49 l0_3 x17_1).f3.f1))) (fun _ hk => hk.2) (.int .u8 ((rd_T49 l0_3 x17_1).f3.f2))) (fun _ hk => trivial)⟩
       have n3_ : Aside0 (((((((w22.setCell ⟨gb212, 0, none⟩ (.slice A211_0 ((rd_T49 l0_3 x17_1).f0).length c211_0)).setCell ⟨gb212, 1, none⟩ (.slice A211_1 ((rd_T49 l0_3 x17_1).f1).length c211_1)).setCell ⟨gb212, 2, none⟩ (.slice A211_2 ((rd_T49 l0_3 x17_1).f2).length c211_2)).setCell ⟨gb212, 3, none⟩ (.int .u8 ((rd_T49 l0_3 x17_1).f3.f0))).setCell ⟨gb212, 4, none⟩ (.int .u8 ((rd_T49 l0_3 x17_1).f3.f1))).setCell ⟨gb212, 5, none⟩ (.int .u8 ((rd_T49 l0_3 x17_1).f3.f2))).heap[gb203]? = some (.cells #[.int .i64 a0_0, .int .i64 a0_1, .slice Ao9 t205.length co9, .slice (some ad211) l0_3.length c0_3, .slice Ao11 t208.length co11] 34 (0, 0))) := ⟨by (with_reducible repeat first | apply bn | apply bd | apply ba); refine blk_far ?_ NB203_212.out _; (with_reducible repeat first | apply bn | apply bd | apply ba); refine blk_far ?_ NB203_212.out _; (with_reducible repeat first | apply bn | apply bd | apply ba); refine blk_far ?_ NB203_212.out _; (with_reducible repeat first | apply bn | apply bd | apply ba); refine blk_far ?_ NB203_212.out _; (with_reducible repeat first | apply bn | apply bd | apply ba); refine blk_far ?_ NB203_212.out _; (with_reducible repeat first | apply bn | apply bd | apply ba); refine blk_far ?_ NB203_212.out _; (with_reducible repeat first | apply bn | apply bd | apply ba); exact BK203.out⟩
       have n4_ : Aside0 (((((((w22.setCell ⟨gb212, 0, none⟩ (.slice A211_0 ((rd_T49 l0_3 x17_1).f0).length c211_0)).setCell ⟨gb212, 1, none⟩ (.slice A211_1 ((rd_T49 l0_3 x17_1).f1).length c211_1)).setCell ⟨gb212, 2, none⟩ (.slice A211_2 ((rd_T49 l0_3 x17_1).f2).length c211_2)).setCell ⟨gb212, 3, none⟩ (.int .u8 ((rd_T49 l0_3 x17_1).f3.f0))).setCell ⟨gb212, 4, none⟩ (.int .u8 ((rd_T49 l0_3 x17_1).f3.f1))).setCell ⟨gb212, 5, none⟩ (.int .u8 ((rd_T49 l0_3 x17_1).f3.f2))).heap[gb204]? = some (.cells #[.int .i64 0, .int .i64 0, .slice none 0 0, .slice none 0 0, .slice none 0 0] 34 (0, 0))) := ⟨by (with_reducible repeat first | apply bn | apply bd | apply ba); refine blk_far ?_ NB204_212.out _; (with_reducible repeat first | apply bn | apply bd | apply ba); refine blk_far ?_ NB204_212.out _; (with_reducible repeat first | apply bn | apply bd | apply ba); refine blk_far ?_ NB204_212.out _; (with_reducible repeat first | apply bn | apply bd | apply ba); refine blk_far ?_ NB204_212.out _; (with_reducible repeat first | apply bn | apply bd | apply ba); refine blk_far ?_ NB204_212.out _; (with_reducible repeat first | apply bn | apply bd | apply ba); refine blk_far ?_ NB204_212.out _; (with_reducible repeat first | apply bn | apply bd | apply ba); exact BK204.out⟩
       have n5_ : Aside0 (((((((w22.setCell ⟨gb212, 0, none⟩ (.slice A211_0 ((rd_T49 l0_3 x17_1).f0).length c211_0)).setCell ⟨gb212, 1, none⟩ (.slice A211_1 ((rd_T49 l0_3 x17_1).f1).length c211_1)).setCell ⟨gb212, 2, none⟩ (.slice A211_2 ((rd_T49 l0_3 x17_1).f2).length c211_2)).setCell ⟨gb212, 3, none⟩ (.int .u8 ((rd_T49 l0_3 x17_1).f3.f0))).setCell ⟨gb212, 4, none⟩ (.int .u8 ((rd_T49 l0_3 x17_1).f3.f1))).setCell ⟨gb212, 5, none⟩ (.int .u8 ((rd_T49 l0_3 x17_1).f3.f2))).heap[gb212]? = some (.cells #[.slice A211_0 ((rd_T49 l0_3 x17_1).f0).length c211_0, .slice A211_1 ((rd_T49 l0_3 x17_1).f1).length c211_1, .slice A211_2 ((rd_T49 l0_3 x17_1).f2).length c211_2, .int .u8 ((rd_T49 l0_3 x17_1).f3.f0), .int .u8 ((rd_T49 l0_3 x17_1).f3.f1), .int .u8 ((rd_T49 l0_3 x17_1).f3.f2)] 49 (0, 0))) := ⟨by (with_reducible repeat first | apply bn | apply bd | apply ba); refine blk_put (cs := #[.slice A211_0 ((rd_T49 l0_3 x17_1).f0).length c211_0, .slice A211_1 ((rd_T49 l0_3 x17_1).f1).length c211_1, .slice A211_2 ((rd_T49 l0_3 x17_1).f2).length c211_2, .int .u8 ((rd_T49 l0_3 x17_1).f3.f0), .int .u8 ((rd_T49 l0_3 x17_1).f3.f1), .int .u8 0]) ?_ 5 _ rfl; (with_reducible repeat first | apply bn | apply bd | apply ba); refine blk_put (cs := #[.slice A211_0 ((rd_T49 l0_3 x17_1).f0).length c211_0, .slice A211_1 ((rd_T49 l0_3 x17_1).f1).length c211_1, .slice A211_2 ((rd_T49 l0_3 x17_1).f2).length c211_2, .int .u8 ((rd_T49 l0_3 x17_1).f3.f0), .int .u8 0, .int .u8 0]) ?_ 4 _ rfl; (with_reducible repeat first | apply bn | apply bd | apply ba); refine blk_put (cs := #[.slice A211_0 ((rd_T49 l0_3 x17_1).f0).length c211_0, .slice A211_1 ((rd_T49 l0_3 x17_1).f1).length c211_1, .slice A211_2 ((rd_T49 l0_3 x17_1).f2).length c211_2, .int .u8 0, .int .u8 0, .int .u8 0]) ?_ 3 _ rfl; (with_reducible repeat first | apply bn | apply bd | apply ba); refine blk_put (cs := #[.slice A211_0 ((rd_T49 l0_3 x17_1).f0).length c211_0, .slice A211_1 ((rd_T49 l0_3 x17_1).f1).length c211_1, .slice none 0 0, .int .u8 0, .int .u8 0, .int .u8 0]) ?_ 2 _ rfl; (with_reducible repeat first | apply bn | apply bd | apply ba); refine blk_put (cs := #[.slice A211_0 ((rd_T49 l0_3 x17_1).f0).length c211_0, .slice none 0 0, .slice none 0 0, .int .u8 0, .int .u8 0, .int .u8 0]) ?_ 1 _ rfl; (with_reducible repeat first | apply bn | apply bd | apply ba); refine blk_put (cs := #[.slice none 0 0, .slice none 0 0, .slice none 0 0, .int .u8 0, .int .u8 0, .int .u8 0]) ?_ 0 _ rfl; (with_reducible repeat first | apply bn | apply bd | apply ba); exact BK212.out⟩
       have n6_ : Aside0 (Below w.heap.size w ((((((w22.setCell ⟨gb212, 0, none⟩ (.slice A211_0 ((rd_T49 l0_3 x17_1).f0).length c211_0)).setCell ⟨gb212, 1, none⟩ (.slice A211_1 ((rd_T49 l0_3 x17_1).f1).length c211_1)).setCell ⟨gb212, 2, none⟩ (.slice A211_2 ((rd_T49 l0_3 x17_1).f2).length c211_2)).setCell ⟨gb212, 3, none⟩ (.int .u8 ((rd_T49 l0_3 x17_1).f3.f0))).setCell ⟨gb212, 4, none⟩ (.int .u8 ((rd_T49 l0_3 x17_1).f3.f1))).setCell ⟨gb212, 5, none⟩ (.int .u8 ((rd_T49 l0_3 x17_1).f3.f2)))) := ⟨by repeat (first | (with_reducible first | exact HB.out | apply wa | apply wn | apply wd | refine ws ?_ GE203.out | refine ws ?_ GE204.out | refine ws ?_ GE212.out) | exact HB.out)⟩
       (try clear HO_3)
       (try clear HO_204002)
       (try clear HO_204004)
       (try clear BK203)
       (try clear BK204)
       (try clear BK212)
       (try clear HB)
       generalize ((((((w22.setCell ⟨gb212, 0, none⟩ (.slice A211_0 ((rd_T49 l0_3 x17_1).f0).length c211_0)).setCell ⟨gb212, 1, none⟩ (.slice A211_1 ((rd_T49 l0_3 x17_1).f1).length c211_1)).setCell ⟨gb212, 2, none⟩ (.slice A211_2 ((rd_T49 l0_3 x17_1).f2).length c211_2)).setCell ⟨gb212, 3, none⟩ (.int .u8 ((rd_T49 l0_3 x17_1).f3.f0))).setCell ⟨gb212, 4, none⟩ (.int .u8 ((rd_T49 l0_3 x17_1).f3.f1))).setCell ⟨gb212, 5, none⟩ (.int .u8 ((rd_T49 l0_3 x17_1).f3.f2))) = w26 at n0_ n1_ n2_ n3_ n4_ n5_ n6_ ⊢
       have HO_3 := n0_
       have HO_204002 := n1_
       have HO_204004 := n2_
       have BK203 := n3_
       have BK204 := n4_
       have BK212 := n5_
       have HB := n6_
       clear n0_ n1_ n2_ n3_ n4_ n5_ n6_
       have n0_ := asd (Kd.S_drew HO_3.out)
       have n1_ := asd (Kd.R_drew HO_204002.out)
       have n2_ := asd (Kd.R_drew HO_204004.out)
       have n3_ := asd (blk_drew BK203.out)
       have n4_ := asd (blk_drew BK204.out)
       have n5_ := asd (blk_drew BK212.out)
       have n6_ := asd (below_drew1 HB.out)
       clear HO_3
       clear HO_204002
       clear HO_204004
       clear BK203
       clear BK204
       clear BK212
       clear HB
       have HO_3 := n0_
       have HO_204002 := n1_
       have HO_204004 := n2_
       have BK203 := n3_
       have BK204 := n4_
       have BK212 := n5_
       have HB := n6_
       clear n0_ n1_ n2_ n3_ n4_ n5_ n6_
       refine start_ (n := 16) (S := fun w' => w'.cell? ⟨gb212, 0, none⟩ = some (.slice A211_0 ((rd_T49 l0_3 x17_1).f0).length c211_0) ∧ w'.cell? ⟨gb212, 1, none⟩ = some (.slice A211_1 ((rd_T49 l0_3 x17_1).f1).length c211_1) ∧ w'.cell? ⟨gb212, 2, none⟩ = some (.slice A211_2 ((rd_T49 l0_3 x17_1).f2).length c211_2) ∧ w'.cell? ⟨gb212, 3, none⟩ = some (.int .u8 ((rd_T49 l0_3 x17_1).f3.f0)) ∧ w'.cell? ⟨gb212, 4, none⟩ = some (.int .u8 ((rd_T49 l0_3 x17_1).f3.f1)) ∧ w'.cell? ⟨gb212, 5, none⟩ = some (.int .u8 ((rd_T49 l0_3 x17_1).f3.f2))) (ds := []) #[false, false, false, false, false, false, false, false, false, false, false, false, false, false, false, false] (by kernel_rfl) rfl rfl ⟨(blk_cell BK212.out 0).trans rfl, (blk_cell BK212.out 1).trans rfl, (blk_cell BK212.out 2).trans rfl, (blk_cell BK212.out 3).trans rfl, (blk_cell BK212.out 4).trans rfl, (blk_cell BK212.out 5).trans rfl⟩ (fun hHeld => ?_); refine with_tabW conf_Clone.tab6 conf_Clone.bits6 (fun HT_ HW_ => ?_)
       generalize w26.drew = w27 at HO_3 HO_204002 HO_204004 BK203 BK204 BK212 HB hHeld ⊢
       refine pure_ (i := 0) (N := some 21) (v := ?_) (a' := ?_) #[true, false, false, false, false, false, false, false, false, false, false, false, false, false, false, false] rfl rfl (any_of HT_.out (by kernel_rfl)) (fun _ _ _ h => h) (Or.inl ⟨by rfl, ?_⟩) ?_ ?_
       rotate_left
       ·intro w'
        go_simp
        with_reducible rfl
       rotate_left
       ·simp only [Act.put, sB, i64_w, i32_w]
        rfl
       refine pure_ (i := 1) (N := some 22) (v := ?_) (a' := ?_) #[true, true, false, false, false, false, false, false, false, false, false, false, false, false, false, false] rfl rfl (any_of HT_.out (by kernel_rfl)) (fun _ _ _ h => h) (Or.inl ⟨by rfl, ?_⟩) ?_ ?_
       rotate_left
       ·intro w'
        go_simp
        with_reducible rfl
       rotate_left
       ·simp only [Act.put, sB, i64_w, i32_w]
        rfl
       refine pure_ (i := 4) (N := some 25) (v := ?_) (a' := ?_) #[true, true, false, false, true, false, false, false, false, false, false, false, false, false, false, false] rfl rfl (any_of HT_.out (by kernel_rfl)) (fun _ _ _ h => h) (Or.inl ⟨by rfl, ?_⟩) ?_ ?_
       rotate_left
       ·intro w'
        go_simp
        with_reducible rfl
       rotate_left
       ·simp only [Act.put, sB, i64_w, i32_w]
        rfl
       refine pure_ (i := 7) (N := some 28) (v := ?_) (a' := ?_) #[true, true, false, false, true, false, false, true, false, false, false, false, false, false, false, false] rfl rfl (any_of HT_.out (by kernel_rfl)) (fun _ _ _ h => h) (Or.inl ⟨by rfl, ?_⟩) ?_ ?_
       rotate_left
       ·intro w'
        go_simp
        with_reducible rfl
       rotate_left
       ·simp only [Act.put, sB, i64_w, i32_w]
        rfl
       refine pure_ (i := 10) (N := some 31) (v := ?_) (a' := ?_) #[true, true, false, false, true, false, false, true, false, false, true, false, false, false, false, false] rfl rfl (any_of HT_.out (by kernel_rfl)) (fun _ _ _ h => h) (Or.inl ⟨by rfl, ?_⟩) ?_ ?_
       rotate_left
       ·intro w'
        go_simp
        with_reducible rfl
       rotate_left
       ·simp only [Act.put, sB, i64_w, i32_w]
        rfl
       refine take_ (i := 2) (N := some 23) (v := ?_) (a' := ?_) #[true, true, true, false, true, false, false, true, false, false, true, false, false, false, false, false] rfl rfl (take_ofW HT_.out HW_.out (by kernel_rfl)) (fun _ _ _ h => h) (Or.inl ⟨by rfl, ?_⟩) hHeld ?_ ?_
       rotate_left
       ·rintro w' ⟨s0, s1, s2, s3, s4, s5⟩
        go_simp
        with_reducible rfl
       rotate_left
       ·simp only [Act.put, sB, i64_w, i32_w]
        rfl
       refine take_ (i := 5) (N := some 26) (v := ?_) (a' := ?_) #[true, true, true, false, true, true, false, true, false, false, true, false, false, false, false, false] rfl rfl (take_ofW HT_.out HW_.out (by kernel_rfl)) (fun _ _ _ h => h) (Or.inl ⟨by rfl, ?_⟩) hHeld ?_ ?_
       rotate_left
       ·rintro w' ⟨s0, s1, s2, s3, s4, s5⟩
        go_simp
        with_reducible rfl
       rotate_left
       ·simp only [Act.put, sB, i64_w, i32_w]
        rfl
       refine take_ (i := 8) (N := some 29) (v := ?_) (a' := ?_) #[true, true, true, false, true, true, false, true, true, false, true, false, false, false, false, false] rfl rfl (take_ofW HT_.out HW_.out (by kernel_rfl)) (fun _ _ _ h => h) (Or.inl ⟨by rfl, ?_⟩) hHeld ?_ ?_
       rotate_left
       ·rintro w' ⟨s0, s1, s2, s3, s4, s5⟩
        go_simp
        with_reducible rfl
       rotate_left
       ·simp only [Act.put, sB, i64_w, i32_w]
        rfl
       refine take_ (i := 11) (N := some 32) (v := ?_) (a' := ?_) #[true, true, true, false, true, true, false, true, true, false, true, true, false, false, false, false] rfl rfl (take_ofW HT_.out HW_.out (by kernel_rfl)) (fun _ _ _ h => h) (Or.inl ⟨by rfl, ?_⟩) hHeld ?_ ?_
       rotate_left
       ·rintro w' ⟨s0, s1, s2, s3, s4, s5⟩
        go_simp
        with_reducible rfl
       rotate_left
       ·simp only [Act.put, sB, i64_w, i32_w]
        rfl
       refine one_ (i := 3) (N := some 24) #[true, true, true, true, true, true, false, true, true, false, true, true, false, false, false, false] rfl rfl (one_of HT_.out (by kernel_rfl)) (by decide) (fun K hK => ?_)
       refine goes_ Try.func52 (by kernel_rfl) rfl #[.slice A211_0 ((rd_T49 l0_3 x17_1).f0).length c211_0] (by rfl) rfl rfl (by (try simp only [List.map_toArray, List.map_cons, List.map_nil]); first | done | rfl | (simp only [List.length_drop, List.length_take]; rfl)) ?_
       with_reducible refine (conf_Task_52.calls _ _ ((rd_T49 l0_3 x17_1).f0) t213 _ ?side1 ?side2 A18.out).mono ?_
       (case side1 => repeat (first | exact (Kd.C_below HR211_0.out HB.out) | (with_reducible refine Kd.C_alloc ?_ _) | (with_reducible refine Kd.C_drewN ?_ _) | (with_reducible refine Kd.C_drew ?_)))
       (case side2 => exact HC211_0.out)
       rintro e w28 ⟨v214, rfl, ho0, hb⟩
       refine ⟨_, rfl, ?_⟩
       have n0_ := asd (Kd.S_elder' (by (with_reducible repeat (first | apply Kd.S_alloc | apply Kd.S_drewN | apply Kd.S_drew)); exact HO_3.out) (Kd.R_base ho0) hb)
       have n1_ := asd (Kd.R_below (by (with_reducible repeat (first | apply Kd.R_alloc | apply Kd.R_drewN | apply Kd.R_drew)); exact HO_204002.out) hb)
       have n2_ := asd (Kd.R_below (by (with_reducible repeat (first | apply Kd.R_alloc | apply Kd.R_drewN | apply Kd.R_drew)); exact HO_204004.out) hb)
       have n3_ := asd (Kd.R_lower ho0 (below_size (by repeat (first | (with_reducible first | exact HB.out | apply wa | apply wn | apply wd | refine ws ?_ GE203.out | refine ws ?_ GE204.out | refine ws ?_ GE212.out) | exact HB.out))))
       have n4_ := asd (blk_below (g := gb203) (o := .cells #[.int .i64 a0_0, .int .i64 a0_1, .slice Ao9 t205.length co9, .slice (some ad211) l0_3.length c0_3, .slice Ao11 t208.length co11] 34 (0, 0)) (by (with_reducible repeat first | apply bn | apply bd | apply ba); exact BK203.out) hb)
       have n5_ := asd (blk_below (g := gb204) (o := .cells #[.int .i64 0, .int .i64 0, .slice none 0 0, .slice none 0 0, .slice none 0 0] 34 (0, 0)) (by (with_reducible repeat first | apply bn | apply bd | apply ba); exact BK204.out) hb)
       have n6_ := asd (blk_below (g := gb212) (o := .cells #[.slice A211_0 ((rd_T49 l0_3 x17_1).f0).length c211_0, .slice A211_1 ((rd_T49 l0_3 x17_1).f1).length c211_1, .slice A211_2 ((rd_T49 l0_3 x17_1).f2).length c211_2, .int .u8 ((rd_T49 l0_3 x17_1).f3.f0), .int .u8 ((rd_T49 l0_3 x17_1).f3.f1), .int .u8 ((rd_T49 l0_3 x17_1).f3.f2)] 49 (0, 0)) (by (with_reducible repeat first | apply bn | apply bd | apply ba); exact BK212.out) hb)
       have n7_ := asd (below_step (by repeat (first | (with_reducible first | exact HB.out | apply wa | apply wn | apply wd | refine ws ?_ GE203.out | refine ws ?_ GE204.out | refine ws ?_ GE212.out) | exact HB.out)) hb)
       clear HO_3
       clear HO_204002
       clear HO_204004
       clear BK203
       clear BK204
       clear BK212
       clear HB
       have HO_3 := n0_
       have HO_204002 := n1_
       have HO_204004 := n2_
       have HO215 := n3_
       have BK203 := n4_
       have BK204 := n5_
       have BK212 := n6_
       have HB := n7_
       clear n0_ n1_ n2_ n3_ n4_ n5_ n6_ n7_
       (try clear hb)
       (try clear hb2)
       (try clear hk)
       (try clear hi)
       (try clear ho0)
       refine hK.out _ _ ⟨(blk_cell BK212.out 0).trans rfl, (blk_cell BK212.out 1).trans rfl, (blk_cell BK212.out 2).trans rfl, (blk_cell BK212.out 3).trans rfl, (blk_cell BK212.out 4).trans rfl, (blk_cell BK212.out 5).trans rfl⟩ (fun hHeld => ?_)
       clear hK K
       refine norm_ (a' := ?_) ?_ ?_
       rotate_left
       ·show Act.put _ (some 24) _ = _
        simp only [Act.put, sB, i64_w, i32_w]
        rfl
       refine one_ (i := 6) (N := some 27) #[true, true, true, true, true, true, true, true, true, false, true, true, false, false, false, false] rfl rfl (one_of HT_.out (by kernel_rfl)) (by decide) (fun K hK => ?_)
       refine goes_ Try.func53 (by kernel_rfl) rfl #[.slice A211_1 ((rd_T49 l0_3 x17_1).f1).length c211_1] (by rfl) rfl rfl (by (try simp only [List.map_toArray, List.map_cons, List.map_nil]); first | done | rfl | (simp only [List.length_drop, List.length_take]; rfl)) ?_
       with_reducible refine (conf_Server_53.calls _ _ ((rd_T49 l0_3 x17_1).f1) t216 _ ?side1 ?side2 A19.out).mono ?_
       (case side1 => repeat (first | exact (Kd.C_below HR211_1.out HB.out) | (with_reducible refine Kd.C_alloc ?_ _) | (with_reducible refine Kd.C_drewN ?_ _) | (with_reducible refine Kd.C_drew ?_)))
       (case side2 => exact HC211_1.out)
       rintro e w29 ⟨v217, rfl, ho0, hb⟩
       refine ⟨_, rfl, ?_⟩
       have n0_ := asd (Kd.S_elder' (by (with_reducible repeat (first | apply Kd.S_alloc | apply Kd.S_drewN | apply Kd.S_drew)); exact HO_3.out) (Kd.R_base ho0) hb)
       have n1_ := asd (Kd.R_below (by (with_reducible repeat (first | apply Kd.R_alloc | apply Kd.R_drewN | apply Kd.R_drew)); exact HO_204002.out) hb)
       have n2_ := asd (Kd.R_below (by (with_reducible repeat (first | apply Kd.R_alloc | apply Kd.R_drewN | apply Kd.R_drew)); exact HO_204004.out) hb)
       have n3_ := asd (Kd.R_below (by (with_reducible repeat (first | apply Kd.R_alloc | apply Kd.R_drewN | apply Kd.R_drew)); exact HO215.out) hb)
       have n4_ := asd (Kd.R_lower ho0 (below_size (by repeat (first | (with_reducible first | exact HB.out | apply wa | apply wn | apply wd | refine ws ?_ GE203.out | refine ws ?_ GE204.out | refine ws ?_ GE212.out) | exact HB.out))))
       have n5_ := asd (blk_below (g := gb203) (o := .cells #[.int .i64 a0_0, .int .i64 a0_1, .slice Ao9 t205.length co9, .slice (some ad211) l0_3.length c0_3, .slice Ao11 t208.length co11] 34 (0, 0)) (by (with_reducible repeat first | apply bn | apply bd | apply ba); exact BK203.out) hb)
       have n6_ := asd (blk_below (g := gb204) (o := .cells #[.int .i64 0, .int .i64 0, .slice none 0 0, .slice none 0 0, .slice none 0 0] 34 (0, 0)) (by (with_reducible repeat first | apply bn | apply bd | apply ba); exact BK204.out) hb)
       have n7_ := asd (blk_below (g := gb212) (o := .cells #[.slice A211_0 ((rd_T49 l0_3 x17_1).f0).length c211_0, .slice A211_1 ((rd_T49 l0_3 x17_1).f1).length c211_1, .slice A211_2 ((rd_T49 l0_3 x17_1).f2).length c211_2, .int .u8 ((rd_T49 l0_3 x17_1).f3.f0), .int .u8 ((rd_T49 l0_3 x17_1).f3.f1), .int .u8 ((rd_T49 l0_3 x17_1).f3.f2)] 49 (0, 0)) (by (with_reducible repeat first | apply bn | apply bd | apply ba); exact BK212.out) hb)
       have n8_ := asd (below_step (by repeat (first | (with_reducible first | exact HB.out | apply wa | apply wn | apply wd | refine ws ?_ GE203.out | refine ws ?_ GE204.out | refine ws ?_ GE212.out) | exact HB.out)) hb)
       clear HO_3
       clear HO_204002
       clear HO_204004
       clear HO215
       clear BK203
       clear BK204
       clear BK212
       clear HB
       have HO_3 := n0_
       have HO_204002 := n1_
       have HO_204004 := n2_
       have HO215 := n3_
       have HO218 := n4_
       have BK203 := n5_
       have BK204 := n6_
       have BK212 := n7_
       have HB := n8_
       clear n0_ n1_ n2_ n3_ n4_ n5_ n6_ n7_ n8_
       (try clear hb)
       (try clear hb2)
       (try clear hk)
       (try clear hi)
       (try clear ho0)
       refine hK.out _ _ ⟨(blk_cell BK212.out 0).trans rfl, (blk_cell BK212.out 1).trans rfl, (blk_cell BK212.out 2).trans rfl, (blk_cell BK212.out 3).trans rfl, (blk_cell BK212.out 4).trans rfl, (blk_cell BK212.out 5).trans rfl⟩ (fun hHeld => ?_)
       clear hK K
       refine norm_ (a' := ?_) ?_ ?_
       rotate_left
       ·show Act.put _ (some 27) _ = _
        simp only [Act.put, sB, i64_w, i32_w]
        rfl
       refine one_ (i := 9) (N := some 30) #[true, true, true, true, true, true, true, true, true, true, true, true, false, false, false, false] rfl rfl (one_of HT_.out (by kernel_rfl)) (by decide) (fun K hK => ?_)
       refine goes_ Try.func54 (by kernel_rfl) rfl #[.slice A211_2 ((rd_T49 l0_3 x17_1).f2).length c211_2] (by rfl) rfl rfl (by (try simp only [List.map_toArray, List.map_cons, List.map_nil]); first | done | rfl | (simp only [List.length_drop, List.length_take]; rfl)) ?_
       with_reducible refine (slices_Clone_int_int.calls _ _ ((rd_T49 l0_3 x17_1).f2) t219 _ ?side1 ?side2 A20.out).mono ?_
       (case side1 => repeat (first | exact (Kd.C_below HR211_2.out HB.out) | (with_reducible refine Kd.C_alloc ?_ _) | (with_reducible refine Kd.C_drewN ?_ _) | (with_reducible refine Kd.C_drew ?_)))
       (case side2 => exact HC211_2.out)
       rintro e w30 ⟨v220, rfl, ho0, hb⟩
       refine ⟨_, rfl, ?_⟩
       have n0_ := asd (Kd.S_elder' (by (with_reducible repeat (first | apply Kd.S_alloc | apply Kd.S_drewN | apply Kd.S_drew)); exact HO_3.out) (Kd.R_base ho0) hb)
       have n1_ := asd (Kd.R_below (by (with_reducible repeat (first | apply Kd.R_alloc | apply Kd.R_drewN | apply Kd.R_drew)); exact HO_204002.out) hb)
       have n2_ := asd (Kd.R_below (by (with_reducible repeat (first | apply Kd.R_alloc | apply Kd.R_drewN | apply Kd.R_drew)); exact HO_204004.out) hb)
       have n3_ := asd (Kd.R_below (by (with_reducible repeat (first | apply Kd.R_alloc | apply Kd.R_drewN | apply Kd.R_drew)); exact HO215.out) hb)
       have n4_ := asd (Kd.R_below (by (with_reducible repeat (first | apply Kd.R_alloc | apply Kd.R_drewN | apply Kd.R_drew)); exact HO218.out) hb)
       have n5_ := asd (Kd.R_lower ho0 (below_size (by repeat (first | (with_reducible first | exact HB.out | apply wa | apply wn | apply wd | refine ws ?_ GE203.out | refine ws ?_ GE204.out | refine ws ?_ GE212.out) | exact HB.out))))
       have n6_ := asd (blk_below (g := gb203) (o := .cells #[.int .i64 a0_0, .int .i64 a0_1, .slice Ao9 t205.length co9, .slice (some ad211) l0_3.length c0_3, .slice Ao11 t208.length co11] 34 (0, 0)) (by (with_reducible repeat first | apply bn | apply bd | apply ba); exact BK203.out) hb)
       have n7_ := asd (blk_below (g := gb204) (o := .cells #[.int .i64 0, .int .i64 0, .slice none 0 0, .slice none 0 0, .slice none 0 0] 34 (0, 0)) (by (with_reducible repeat first | apply bn | apply bd | apply ba); exact BK204.out) hb)
       have n8_ := asd (blk_below (g := gb212) (o := .cells #[.slice A211_0 ((rd_T49 l0_3 x17_1).f0).length c211_0, .slice A211_1 ((rd_T49 l0_3 x17_1).f1).length c211_1, .slice A211_2 ((rd_T49 l0_3 x17_1).f2).length c211_2, .int .u8 ((rd_T49 l0_3 x17_1).f3.f0), .int .u8 ((rd_T49 l0_3 x17_1).f3.f1), .int .u8 ((rd_T49 l0_3 x17_1).f3.f2)] 49 (0, 0)) (by (with_reducible repeat first | apply bn | apply bd | apply ba); exact BK212.out) hb)
       have n9_ := asd (below_step (by repeat (first | (with_reducible first | exact HB.out | apply wa | apply wn | apply wd | refine ws ?_ GE203.out | refine ws ?_ GE204.out | refine ws ?_ GE212.out) | exact HB.out)) hb)
       clear HO_3
       clear HO_204002
       clear HO_204004
       clear HO215
       clear HO218
       clear BK203
       clear BK204
       clear BK212
       clear HB
       have HO_3 := n0_
       have HO_204002 := n1_
       have HO_204004 := n2_
       have HO215 := n3_
       have HO218 := n4_
       have HO221 := n5_
       have BK203 := n6_
       have BK204 := n7_
       have BK212 := n8_
       have HB := n9_
       clear n0_ n1_ n2_ n3_ n4_ n5_ n6_ n7_ n8_ n9_
       (try clear hb)
       (try clear hb2)
       (try clear hk)
       (try clear hi)
       (try clear ho0)
       obtain ⟨Ao31, co31, eo31⟩ := Kd.R_slice HO221.out
       (first | subst eo31 | (injection eo31 with f1_ f2_ f3_; have f4_ := f1_.symm; have f5_ := f3_.symm; clear f1_ f2_ f3_; subst f4_; subst f5_))
       obtain ⟨Ao32, co32, eo32⟩ := Kd.R_slice HO218.out
       (first | subst eo32 | (injection eo32 with f1_ f2_ f3_; have f4_ := f1_.symm; have f5_ := f3_.symm; clear f1_ f2_ f3_; subst f4_; subst f5_))
       obtain ⟨Ao33, co33, eo33⟩ := Kd.R_slice HO215.out
       (first | subst eo33 | (injection eo33 with f1_ f2_ f3_; have f4_ := f1_.symm; have f5_ := f3_.symm; clear f1_ f2_ f3_; subst f4_; subst f5_))
       refine hK.out _ _ ⟨(blk_cell BK212.out 0).trans rfl, (blk_cell BK212.out 1).trans rfl, (blk_cell BK212.out 2).trans rfl, (blk_cell BK212.out 3).trans rfl, (blk_cell BK212.out 4).trans rfl, (blk_cell BK212.out 5).trans rfl⟩ (fun hHeld => ?_)
       clear hK K
       refine norm_ (a' := ?_) ?_ ?_
       rotate_left
       ·show Act.put _ (some 30) _ = _
        simp only [Act.put, sB, i64_w, i32_w]
        rfl
       refine pure_ (i := 12) (N := some 33) (v := ?_) (a' := ?_) #[true, true, true, true, true, true, true, true, true, true, true, true, true, false, false, false] rfl rfl (any_of HT_.out (by kernel_rfl)) (fun _ _ _ h => h) (Or.inl ⟨by rfl, ?_⟩) ?_ ?_
       rotate_left
       ·intro w'
        go_simp
        with_reducible rfl
       rotate_left
       ·simp only [Act.put, sB, i64_w, i32_w]
        rfl
       refine one_ (i := 13) (N := some 34) #[true, true, true, true, true, true, true, true, true, true, true, true, true, true, false, false] rfl rfl (one_of HT_.out (by kernel_rfl)) (by decide) (fun K hK => ?_)
       refine value_ (w1 := ?_) (v := ?_) (by rfl) rfl ?_ ?_
       rotate_left 2
       ·go_simp
        constructor
        ·rfl
        ·rfl
       refine hK.out _ _ ⟨(blk_cell (blk_alloc BK212.out _) 0).trans rfl, (blk_cell (blk_alloc BK212.out _) 1).trans rfl, (blk_cell (blk_alloc BK212.out _) 2).trans rfl, (blk_cell (blk_alloc BK212.out _) 3).trans rfl, (blk_cell (blk_alloc BK212.out _) 4).trans rfl, (blk_cell (blk_alloc BK212.out _) 5).trans rfl⟩ (fun hHeld => ?_)
       clear hK K
       refine norm_ (a' := ?_) ?_ ?_
       rotate_left
       ·show Act.put _ (some 34) _ = _
        simp only [Act.put, sB, i64_w, i32_w]
        rfl
       refine one_ (i := 14) (N := some 35) #[true, true, true, true, true, true, true, true, true, true, true, true, true, true, true, false] rfl rfl (one_of HT_.out (by kernel_rfl)) (by decide) (fun K hK => ?_)
       refine Kd.S_append_step k49 (w0 := w) w.heap.size (by rfl) (.tmp 21) (.tmp 34) 31 49 (.agg #[(.slice none 0 0), (.slice none 0 0), (.slice none 0 0), (.int .u8 0), (.int .u8 0), (.int .u8 0)]) 80 rfl Try.underlying31 info49 rfl (by decide) (by omega) u3 x3_1 (⟨t213, t216, t219, (⟨(rd_T49 l0_3 x17_1).f3.f0, (rd_T49 l0_3 x17_1).f3.f1, (rd_T49 l0_3 x17_1).f3.f2⟩ : S47)⟩ : S49) [.slice Ao33 t213.length co33, .slice Ao32 t216.length co32, .slice Ao31 t219.length co31, .int .u8 ((rd_T49 l0_3 x17_1).f3.f0), .int .u8 ((rd_T49 l0_3 x17_1).f3.f1), .int .u8 ((rd_T49 l0_3 x17_1).f3.f2)] (fun k_ => k_ ≠ gb212) (fun k_ => some k_ = (.slice Ao33 t213.length co33 : Value).ownBlock ∨ some k_ = (.slice Ao32 t216.length co32 : Value).ownBlock ∨ some k_ = (.slice Ao31 t219.length co31 : Value).ownBlock) rfl rfl ?aP (fun k_ hk_ => hk_.elim (fun h_ => ((Kd.R_mono (ok' := fun k_ => ((fun k_ => k_ ≠ gb212)) k_ ∧ some k_ ≠ (u3 : Value).ownBlock) (Kd.R_types (Kd.R_apart' (HO215.out) (Kd.S_typed HO_3.out) (by decide)) BK212.out (by decide)) (fun k_ hk => ⟨hk.2, hk.1.2⟩))).1 k_ h_.symm) (fun h_ => h_.elim (fun h_ => ((Kd.R_mono (ok' := fun k_ => ((fun k_ => k_ ≠ gb212)) k_ ∧ some k_ ≠ (u3 : Value).ownBlock) (Kd.R_types (Kd.R_apart' (HO218.out) (Kd.S_typed HO_3.out) (by decide)) BK212.out (by decide)) (fun k_ hk => ⟨hk.2, hk.1.2⟩))).1 k_ h_.symm) (fun h_ => ((Kd.R_mono (ok' := fun k_ => ((fun k_ => k_ ≠ gb212)) k_ ∧ some k_ ≠ (u3 : Value).ownBlock) (Kd.R_types (Kd.R_apart' (HO221.out) (Kd.S_typed HO_3.out) (by decide)) BK212.out (by decide)) (fun k_ hk => ⟨hk.2, hk.1.2⟩))).1 k_ h_.symm))) ?aF ?aO ?aB ?aS ?aL ?_
       (case aP => exact k49_mkM _ _ _ (⟨t213, t216, t219, (⟨(rd_T49 l0_3 x17_1).f3.f0, (rd_T49 l0_3 x17_1).f3.f1, (rd_T49 l0_3 x17_1).f3.f2⟩ : S47)⟩ : S49) (Kd.R_mono (Kd.R_tight rfl (Kd.R_mono (ok' := fun k_ => ((fun k_ => k_ ≠ gb212)) k_ ∧ some k_ ≠ (u3 : Value).ownBlock) (Kd.R_types (Kd.R_apart' (HO215.out) (Kd.S_typed HO_3.out) (by decide)) BK212.out (by decide)) (fun k_ hk => ⟨hk.2, hk.1.2⟩))) (fun _ h_ => Or.inl h_)) (Kd.R_mono (Kd.R_tight rfl (Kd.R_mono (ok' := fun k_ => ((fun k_ => k_ ≠ gb212)) k_ ∧ some k_ ≠ (u3 : Value).ownBlock) (Kd.R_types (Kd.R_apart' (HO218.out) (Kd.S_typed HO_3.out) (by decide)) BK212.out (by decide)) (fun k_ hk => ⟨hk.2, hk.1.2⟩))) (fun _ h_ => Or.inr (Or.inl h_))) (Kd.R_mono (Kd.R_tight rfl (Kd.R_mono (ok' := fun k_ => ((fun k_ => k_ ≠ gb212)) k_ ∧ some k_ ≠ (u3 : Value).ownBlock) (Kd.R_types (Kd.R_apart' (HO221.out) (Kd.S_typed HO_3.out) (by decide)) BK212.out (by decide)) (fun k_ hk => ⟨hk.2, hk.1.2⟩))) (fun _ h_ => Or.inr (Or.inr (h_)))))
       (case aB => exact (by repeat (first | (with_reducible first | exact HB.out | apply wa | apply wn | apply wd | refine ws ?_ GE203.out | refine ws ?_ GE204.out | refine ws ?_ GE212.out) | exact HB.out)))
       (case aF => exact (fun k_ hk => Kd.freshB (g := gb212) (o := .cells #[.slice A211_0 ((rd_T49 l0_3 x17_1).f0).length c211_0, .slice A211_1 ((rd_T49 l0_3 x17_1).f1).length c211_1, .slice A211_2 ((rd_T49 l0_3 x17_1).f2).length c211_2, .int .u8 ((rd_T49 l0_3 x17_1).f3.f0), .int .u8 ((rd_T49 l0_3 x17_1).f3.f1), .int .u8 ((rd_T49 l0_3 x17_1).f3.f2)] 49 (0, 0)) (by (with_reducible repeat first | apply bn | apply bd | apply ba); exact BK212.out) k_ hk))
       (case aO => exact (by (with_reducible repeat (first | apply Kd.S_alloc | apply Kd.S_drewN | apply Kd.S_drew)); exact Kd.S_mono HO_3.out (fun k_ hk => ⟨hk.1.1.1, fun e_ => e_.elim (fun h_ => hk.1.1.2 h_) (fun h_ => h_.elim (fun h_ => hk.1.2 h_) (fun h_ => hk.2 h_))⟩)))
       (case aS => exact (below_size (by repeat (first | (with_reducible first | exact HB.out | apply wa | apply wn | apply wd | refine ws ?_ GE203.out | refine ws ?_ GE204.out | refine ws ?_ GE212.out) | exact HB.out))))
       (case aL => have := LMc21.out; omega)
       intro v223 w34 ho hb hg hat
       rw [← Ny222.out] at ho
       have n0_ := asd (Kd.R_over' (by (with_reducible repeat (first | apply Kd.R_alloc | apply Kd.R_drewN | apply Kd.R_drew)); exact HO_204002.out) (Kd.S_typed (by (with_reducible repeat (first | apply Kd.S_alloc | apply Kd.S_drewN | apply Kd.S_drew)); exact HO_3.out)) (by decide) hg)
       have n1_ := asd (Kd.R_over' (by (with_reducible repeat (first | apply Kd.R_alloc | apply Kd.R_drewN | apply Kd.R_drew)); exact HO_204004.out) (Kd.S_typed (by (with_reducible repeat (first | apply Kd.S_alloc | apply Kd.S_drewN | apply Kd.S_drew)); exact HO_3.out)) (by decide) hg)
       have n2_ := asd (blk_grown (g := gb203) (o := .cells #[.int .i64 a0_0, .int .i64 a0_1, .slice Ao9 t205.length co9, .slice (some ad211) l0_3.length c0_3, .slice Ao11 t208.length co11] 34 (0, 0)) (by (with_reducible repeat first | apply bn | apply bd | apply ba); exact BK203.out) hg (Kd.S_ne HO_3.out BK203.out (by decide)))
       have n3_ := asd (blk_grown (g := gb204) (o := .cells #[.int .i64 0, .int .i64 0, .slice none 0 0, .slice none 0 0, .slice none 0 0] 34 (0, 0)) (by (with_reducible repeat first | apply bn | apply bd | apply ba); exact BK204.out) hg (Kd.S_ne HO_3.out BK204.out (by decide)))
       have n4_ := asd (blk_grown (g := gb212) (o := .cells #[.slice A211_0 ((rd_T49 l0_3 x17_1).f0).length c211_0, .slice A211_1 ((rd_T49 l0_3 x17_1).f1).length c211_1, .slice A211_2 ((rd_T49 l0_3 x17_1).f2).length c211_2, .int .u8 ((rd_T49 l0_3 x17_1).f3.f0), .int .u8 ((rd_T49 l0_3 x17_1).f3.f1), .int .u8 ((rd_T49 l0_3 x17_1).f3.f2)] 49 (0, 0)) (by (with_reducible repeat first | apply bn | apply bd | apply ba); exact BK212.out) hg (Kd.S_away HO_3.out (fun _ hk => hk.1.1.1)))
       have n5_ := asd (hb)
       have n6_ := asd (ho)
       clear HO_204002
       clear HO_204004
       clear BK203
       clear BK204
       clear BK212
       clear HB
       clear HO_3
       clear HO215
       clear HO218
       clear HO221
       have HO_204002 := n0_
       have HO_204004 := n1_
       have BK203 := n2_
       have BK204 := n3_
       have BK212 := n4_
       have HB := n5_
       have HO224 := n6_
       clear n0_ n1_ n2_ n3_ n4_ n5_ n6_
       clear ho hb hg hat
       refine hK.out _ _ ⟨(blk_cell BK212.out 0).trans rfl, (blk_cell BK212.out 1).trans rfl, (blk_cell BK212.out 2).trans rfl, (blk_cell BK212.out 3).trans rfl, (blk_cell BK212.out 4).trans rfl, (blk_cell BK212.out 5).trans rfl⟩ (fun hHeld => ?_)
       clear hK K
       refine norm_ (a' := ?_) ?_ ?_
       rotate_left
       ·show Act.put _ (some 35) _ = _
        simp only [Act.put, sB, i64_w, i32_w]
        rfl
       refine pure_ (i := 15) (N := some 3) (v := ?_) (a' := ?_) #[true, true, true, true, true, true, true, true, true, true, true, true, true, true, true, true] rfl rfl (any_of HT_.out (by kernel_rfl)) (fun _ _ _ h => h) (Or.inl ⟨by rfl, ?_⟩) ?_ ?_
       rotate_left
       ·intro w'
        go_simp
        with_reducible rfl
       rotate_left
       ·simp only [Act.put, sB, i64_w, i32_w]
        rfl
       refine done_ (done_of HT_.out (by kernel_rfl)) ?_
       try go_wp2
       go_roundg k1
       case measure => have := HK1.out; omega
       case rel => exact ⟨(y222), (wrap64 (x17_1 + 1)), (by first | rfl | (simp; done) | (simp [*]; done)), H', ⟨by have := HK1.out; omega⟩, ⟨by (with_reducible repeat (first | apply Kd.S_alloc | apply Kd.S_drewN | apply Kd.S_drew)); exact Kd.S_mono HO224.out (fun _ hk => trivial)⟩, ⟨by (with_reducible repeat (first | apply Kd.R_alloc | apply Kd.R_drewN | apply Kd.R_drew)); exact HO_204002.out⟩, ⟨by (with_reducible repeat (first | apply Kd.R_alloc | apply Kd.R_drewN | apply Kd.R_drew)); exact HO_204004.out⟩, ⟨by (with_reducible repeat first | apply bn | apply bd | apply ba); exact BK203.out⟩, ⟨by (with_reducible repeat first | apply bn | apply bd | apply ba); exact BK204.out⟩, ⟨by repeat (first | (with_reducible first | exact HB.out | apply wa | apply wn | apply wd | refine ws ?_ GE203.out | refine ws ?_ GE204.out | refine ws ?_ GE212.out) | exact HB.out)⟩⟩
      ·rw [if_neg c21] at H
       exact absurd H (by simp)
     ·rw [if_neg c17] at H
      exact absurd H (by simp)
    ·rw [if_neg c16] at H
     exact absurd H (by simp)
   ·rw [if_neg c15] at H
    have c15b0 : decide (x17_1 < (l0_3.length : Int)) = false := decide_eq_false c15
    clear c15
    simp only [Option.some.injEq, Prod.mk.injEq] at H
    obtain ⟨rfl, rfl, rfl, rfl, rfl⟩ := H
    obtain ⟨Ao35, co35, eo35⟩ := Kd.S_slice HO_3.out
    subst eo35
    have hnb36 := NB203_204.out
    have hnc36 := NB204_203.out
    have hcz37_0 : wr.cell? ⟨gb203, 0, none⟩ = some (.int .i64 a0_0) := (blk_cell BK203.out 0).trans rfl
    have hcz37_1 : wr.cell? ⟨gb203, 1, none⟩ = some (.int .i64 a0_1) := (blk_cell BK203.out 1).trans rfl
    have hcz37_2 : wr.cell? ⟨gb203, 2, none⟩ = some (.slice Ao9 t205.length co9) := (blk_cell BK203.out 2).trans rfl
    have hcz37_3 : wr.cell? ⟨gb203, 3, none⟩ = some (.slice A0_3 l0_3.length c0_3) := (blk_cell BK203.out 3).trans rfl
    have hcz37_4 : wr.cell? ⟨gb203, 4, none⟩ = some (.slice Ao11 t208.length co11) := (blk_cell BK203.out 4).trans rfl
    have hfz37_0 := blk_frozen BK203.out 0
    have hfz37_1 := blk_frozen BK203.out 1
    have hfz37_2 := blk_frozen BK203.out 2
    have hfz37_3 := blk_frozen BK203.out 3
    have hfz37_4 := blk_frozen BK203.out 4
    have hcz38_0 : wr.cell? ⟨gb204, 0, none⟩ = some (.int .i64 0) := (blk_cell BK204.out 0).trans rfl
    have hcz38_1 : wr.cell? ⟨gb204, 1, none⟩ = some (.int .i64 0) := (blk_cell BK204.out 1).trans rfl
    have hcz38_2 : wr.cell? ⟨gb204, 2, none⟩ = some (.slice none 0 0) := (blk_cell BK204.out 2).trans rfl
    have hcz38_3 : wr.cell? ⟨gb204, 3, none⟩ = some (.slice none 0 0) := (blk_cell BK204.out 3).trans rfl
    have hcz38_4 : wr.cell? ⟨gb204, 4, none⟩ = some (.slice none 0 0) := (blk_cell BK204.out 4).trans rfl
    have hfz38_0 := blk_frozen BK204.out 0
    have hfz38_1 := blk_frozen BK204.out 1
    have hfz38_2 := blk_frozen BK204.out 2
    have hfz38_3 := blk_frozen BK204.out 3
    have hfz38_4 := blk_frozen BK204.out 4
    go_wp2
    refine bodyPost_ret (results_cell_row rfl _ _ gb204 34 #[.int .i64 a0_0, .int .i64 a0_1, .slice Ao9 t205.length co9, .slice Ao35 x3_1.length co35, .slice Ao11 t208.length co11] (0, 0) _ rfl (by (with_reducible repeat first | apply bn | apply bd | apply ba); refine blk_put (cs := #[.int .i64 a0_0, .int .i64 a0_1, .slice Ao9 t205.length co9, .slice Ao35 x3_1.length co35, .slice none 0 0]) ?_ 4 _ rfl; (with_reducible repeat first | apply bn | apply bd | apply ba); refine blk_put (cs := #[.int .i64 a0_0, .int .i64 a0_1, .slice Ao9 t205.length co9, .slice none 0 0, .slice none 0 0]) ?_ 3 _ rfl; (with_reducible repeat first | apply bn | apply bd | apply ba); refine blk_put (cs := #[.int .i64 a0_0, .int .i64 a0_1, .slice none 0 0, .slice none 0 0, .slice none 0 0]) ?_ 2 _ rfl; (with_reducible repeat first | apply bn | apply bd | apply ba); refine blk_put (cs := #[.int .i64 a0_0, .int .i64 0, .slice none 0 0, .slice none 0 0, .slice none 0 0]) ?_ 1 _ rfl; (with_reducible repeat first | apply bn | apply bd | apply ba); refine blk_put (cs := #[.int .i64 0, .int .i64 0, .slice none 0 0, .slice none 0 0, .slice none 0 0]) ?_ 0 _ rfl; (with_reducible repeat first | apply bn | apply bd | apply ba); refine blk_far ?_ NB204_203.out _; (with_reducible repeat first | apply bn | apply bd | apply ba); exact BK204.out) Try.underlying34 rfl (by kernel_rfl)) rfl ?_
    exact ⟨_, _, _, by first | rfl | (simp [*] <;> rfl), by (with_reducible repeat (first | apply Kd.R_alloc | apply Kd.R_drewN | apply Kd.R_drew)); exact Kd.R_mono (Kd.R_far (p := ⟨gb204, 4, none⟩) (Kd.R_far (p := ⟨gb204, 3, none⟩) (Kd.R_far (p := ⟨gb204, 2, none⟩) (Kd.R_far (p := ⟨gb204, 1, none⟩) (Kd.R_far (p := ⟨gb204, 0, none⟩) (Kd.R_far (p := ⟨gb203, 3, none⟩) (Kd.R_types (Kd.R_types HO_204002.out BK203.out (by decide)) BK204.out (by decide)) (fun _ hk => hk.1.2) (.slice Ao35 x3_1.length co35)) (fun _ hk => hk.2) (.int .i64 a0_0)) (fun _ hk => hk.2) (.int .i64 a0_1)) (fun _ hk => hk.2) (.slice Ao9 t205.length co9)) (fun _ hk => hk.2) (.slice Ao35 x3_1.length co35)) (fun _ hk => hk.2) (.slice Ao11 t208.length co11)) (fun _ hk => trivial), by (with_reducible repeat (first | apply Kd.S_alloc | apply Kd.S_drewN | apply Kd.S_drew)); exact Kd.S_mono (Kd.S_far (p := ⟨gb204, 4, none⟩) (Kd.S_far (p := ⟨gb204, 3, none⟩) (Kd.S_far (p := ⟨gb204, 2, none⟩) (Kd.S_far (p := ⟨gb204, 1, none⟩) (Kd.S_far (p := ⟨gb204, 0, none⟩) (Kd.S_far (p := ⟨gb203, 3, none⟩) (Kd.S_types (Kd.S_types HO_3.out BK203.out (by decide)) BK204.out (by decide)) (fun _ hk => hk.1.2) (.slice Ao35 x3_1.length co35)) (fun _ hk => hk.2) (.int .i64 a0_0)) (fun _ hk => hk.2) (.int .i64 a0_1)) (fun _ hk => hk.2) (.slice Ao9 t205.length co9)) (fun _ hk => hk.2) (.slice Ao35 x3_1.length co35)) (fun _ hk => hk.2) (.slice Ao11 t208.length co11)) (fun _ hk => trivial), by (with_reducible repeat (first | apply Kd.R_alloc | apply Kd.R_drewN | apply Kd.R_drew)); exact Kd.R_mono (Kd.R_far (p := ⟨gb204, 4, none⟩) (Kd.R_far (p := ⟨gb204, 3, none⟩) (Kd.R_far (p := ⟨gb204, 2, none⟩) (Kd.R_far (p := ⟨gb204, 1, none⟩) (Kd.R_far (p := ⟨gb204, 0, none⟩) (Kd.R_far (p := ⟨gb203, 3, none⟩) (Kd.R_types (Kd.R_types HO_204004.out BK203.out (by decide)) BK204.out (by decide)) (fun _ hk => hk.1.2) (.slice Ao35 x3_1.length co35)) (fun _ hk => hk.2) (.int .i64 a0_0)) (fun _ hk => hk.2) (.int .i64 a0_1)) (fun _ hk => hk.2) (.slice Ao9 t205.length co9)) (fun _ hk => hk.2) (.slice Ao35 x3_1.length co35)) (fun _ hk => hk.2) (.slice Ao11 t208.length co11)) (fun _ hk => trivial), by repeat (first | (with_reducible first | exact HB.out | apply wa | apply wn | apply wd | refine ws ?_ GE203.out | refine ws ?_ GE204.out) | exact HB.out)⟩
end Go.Proofs.Ytmjhnmdmopmfjaa.Fn
namespace Go.Proofs.Ytmjhnmdmopmfjaa.Fn
open Go.RowKit Go.Proofs.YtmjhnmdmopmfjaaW.PrintWords Go.Proofs.YtmjhnmdmopmfjaaW.PrintLast Go.Proofs.YtmjhnmdmopmfjaaW.PrintMore
set_option linter.unusedVariables false
set_option linter.unusedSimpArgs false
def dT (x : S51) : S56 := ⟨x.f0, x.f1, x.f2, x.f3, x.f4, x.f5⟩
def dS (x : S53) : S57 := ⟨x.f0, x.f1, x.f2⟩
def dP (x : S49) : S61 := ⟨x.f0.map dT, x.f1.map dS, x.f2, x.f3⟩
def dW (x : S42) : S77 := ⟨x.f0, x.f1, x.f2⟩
def dC (x : S44) : S78 := ⟨x.f0, x.f1, x.f2, x.f3⟩
def fewQ (p : S49) : Prop := p.f0.length ≤ 20 ∧ p.f1.length ≤ 20 ∧ p.f2.length ≤ 20
theorem rpart_l1 (t0 : List S51) (t1 : List S53) (t2 : List Int) (a b c : Int) (y0 : List S56) (y2 : List Int) (p q r : Int) (h : t1.length ≤ 20) : ∀ d i, t1.length - i = d → i ≤ t1.length →
  Ev (fun k => parcloselaw03_RefPart.l1 k (i : Int) t0 t1 t2 a b c y0 ((t1.take i).map dS) y2 p q r) (y0, t1.map dS, y2, p, q, r) := by
 intro d
 induction d with
 | zero =>
  intro i hd hi
  obtain rfl : i = t1.length := by omega
  rw [List.take_length]
  exact Ev.step (f := fun _ => _) (fun k => by simp only [parcloselaw03_RefPart.l1]; rw [if_neg (by omega)]) (Ev.now _)
 | succ d ih =>
  intro i hd hi
  have hlt : i < t1.length := by omega
  refine Ev.step (fun k => by simp only [parcloselaw03_RefPart.l1]; rw [if_pos (by omega), if_pos (by omega), if_pos (by simp; omega)]) ?_
  rw [show rd_T53 t1 (i : Int) = t1[i] from getD_nat t1 i _ hlt, wrap_nat (by omega)]
  have := ih (i + 1) (by omega) (by omega)
  rw [← map_take_succ dS t1 i hlt] at this
  exact this
theorem rpart_l0 (t0 : List S51) (t1 : List S53) (t2 : List Int) (a b c : Int) (y2 : List Int) (p q r : Int) (h0 : t0.length ≤ 20) (h : t1.length ≤ 20) : ∀ d i, t0.length - i = d → i ≤ t0.length →
  Ev (fun k => parcloselaw03_RefPart.l0 k (i : Int) t0 t1 t2 a b c ((t0.take i).map dT) y2 p q r) (t0.map dT, t1.map dS, y2, p, q, r) := by
 intro d
 induction d with
 | zero =>
  intro i hd hi
  obtain rfl : i = t0.length := by omega
  rw [List.take_length]
  refine Ev.step (fun k => by simp only [parcloselaw03_RefPart.l0]; rw [if_neg (by omega)]) ?_
  have := rpart_l1 t0 t1 t2 a b c (t0.map dT) y2 p q r h t1.length 0 (by omega) (by omega)
  simpa using this
 | succ d ih =>
  intro i hd hi
  have hlt : i < t0.length := by omega
  refine Ev.step (fun k => by simp only [parcloselaw03_RefPart.l0]; rw [if_pos (by omega), if_pos (by omega), if_pos (by simp; omega)]) ?_
  rw [show rd_T51 t0 (i : Int) = t0[i] from getD_nat t0 i _ hlt, wrap_nat (by omega)]
  have := ih (i + 1) (by omega) (by omega)
  rw [← map_take_succ dT t0 i hlt] at this
  exact this
theorem rpart_ev (p : S49) (h : fewQ p) : Ev (fun k => parcloselaw03_RefPart.f k p.f0 p.f1 p.f2 p.f3.f0 p.f3.f1 p.f3.f2) (p.f0.map dT, p.f1.map dS, p.f2, p.f3.f0, p.f3.f1, p.f3.f2) := by
 refine Ev.congr (fun k => by unfold parcloselaw03_RefPart.f; rw [Option.bind_some, if_pos (by have := h.2.2; simp; omega)]) ?_
 have := rpart_l0 p.f0 p.f1 p.f2 p.f3.f0 p.f3.f1 p.f3.f2 p.f2 p.f3.f0 p.f3.f1 p.f3.f2 h.1 h.2.1 p.f0.length 0 (by omega) (by omega)
 simpa using this
theorem rconfig_l2 (a b : Int) (l2 : List S42) (l3 : List S49) (l4 : List S44) (x y : Int) (y2 : List S77) (y3 : List S61) (h : l4.length ≤ 30) : ∀ d i, l4.length - i = d → i ≤ l4.length →
  Ev (fun k => parcloselaw03_Ref.l2 k (i : Int) a b l2 l3 l4 x y y2 y3 ((l4.take i).map dC)) (x, y, y2, y3, l4.map dC) := by
 intro d
 induction d with
 | zero =>
  intro i hd hi
  obtain rfl : i = l4.length := by omega
  rw [List.take_length]
  exact Ev.step (f := fun _ => _) (fun k => by simp only [parcloselaw03_Ref.l2]; rw [if_neg (by omega)]) (Ev.now _)
 | succ d ih =>
  intro i hd hi
  have hlt : i < l4.length := by omega
  refine Ev.step (fun k => by simp only [parcloselaw03_Ref.l2]; rw [if_pos (by omega), if_pos (by omega), if_pos (by simp; omega)]) ?_
  rw [show rd_T44 l4 (i : Int) = l4[i] from getD_nat l4 i _ hlt, wrap_nat (by omega)]
  have := ih (i + 1) (by omega) (by omega)
  rw [← map_take_succ dC l4 i hlt] at this
  exact this
theorem rconfig_l1 (a b : Int) (l2 : List S42) (l3 : List S49) (l4 : List S44) (x y : Int) (y2 : List S77) (h3 : l3.length ≤ 20) (h : l4.length ≤ 30) (hf : ∀ p ∈ l3, fewQ p) : ∀ d i, l3.length - i = d → i ≤ l3.length →
  Ev (fun k => parcloselaw03_Ref.l1 k (i : Int) a b l2 l3 l4 x y y2 ((l3.take i).map dP)) (x, y, y2, l3.map dP, l4.map dC) := by
 intro d
 induction d with
 | zero =>
  intro i hd hi
  obtain rfl : i = l3.length := by omega
  rw [List.take_length]
  refine Ev.step (fun k => by simp only [parcloselaw03_Ref.l1]; rw [if_neg (by omega)]) ?_
  have := rconfig_l2 a b l2 l3 l4 x y y2 (l3.map dP) h l4.length 0 (by omega) (by omega)
  simpa using this
 | succ d ih =>
  intro i hd hi
  have hlt : i < l3.length := by omega
  refine Ev.step (fun k => by simp only [parcloselaw03_Ref.l1]; rw [if_pos (by omega), if_pos (by omega)]) ?_
  rw [show rd_T49 l3 (i : Int) = l3[i] from getD_nat l3 i _ hlt, wrap_nat (by omega)]
  refine Ev.bind (rpart_ev l3[i] (hf _ (List.getElem_mem hlt))) ?_
  refine Ev.congr (fun k => by rw [if_pos (by simp; omega)]) ?_
  have := ih (i + 1) (by omega) (by omega)
  rw [← map_take_succ dP l3 i hlt] at this
  exact this
theorem rconfig_l0 (a b : Int) (l2 : List S42) (l3 : List S49) (l4 : List S44) (x y : Int) (h2 : l2.length ≤ 60) (h3 : l3.length ≤ 20) (h : l4.length ≤ 30) (hf : ∀ p ∈ l3, fewQ p) : ∀ d i, l2.length - i = d → i ≤ l2.length →
  Ev (fun k => parcloselaw03_Ref.l0 k (i : Int) a b l2 l3 l4 x y ((l2.take i).map dW)) (x, y, l2.map dW, l3.map dP, l4.map dC) := by
 intro d
 induction d with
 | zero =>
  intro i hd hi
  obtain rfl : i = l2.length := by omega
  rw [List.take_length]
  refine Ev.step (fun k => by simp only [parcloselaw03_Ref.l0]; rw [if_neg (by omega)]) ?_
  have := rconfig_l1 a b l2 l3 l4 x y (l2.map dW) h3 h hf l3.length 0 (by omega) (by omega)
  simpa using this
 | succ d ih =>
  intro i hd hi
  have hlt : i < l2.length := by omega
  refine Ev.step (fun k => by simp only [parcloselaw03_Ref.l0]; rw [if_pos (by omega), if_pos (by omega), if_pos (by simp; omega)]) ?_
  rw [show rd_T42 l2 (i : Int) = l2[i] from getD_nat l2 i _ hlt, wrap_nat (by omega)]
  have := ih (i + 1) (by omega) (by omega)
  rw [← map_take_succ dW l2 i hlt] at this
  exact this
theorem rconfig_ev {a b : Int} {l2 : List S42} {l3 : List S49} {l4 : List S44} (h2 : l2.length ≤ 60) (h3 : l3.length ≤ 20) (h4 : l4.length ≤ 30) (hf : ∀ p ∈ l3, fewQ p) : Ev (fun k => parcloselaw03_Ref.f k a b l2 l3 l4) (a, b, l2.map dW, l3.map dP, l4.map dC) := by
 have := rconfig_l0 a b l2 l3 l4 a b h2 h3 h4 hf l2.length 0 (by omega) (by omega)
 refine Ev.congr (fun k => by unfold parcloselaw03_Ref.f; rfl) ?_
 simpa using this
theorem dT_cT (l : List S56) : (l.map cT).map dT = l := by rw [List.map_map]; exact List.map_id l
theorem dS_cS (l : List S57) : (l.map cS).map dS = l := by rw [List.map_map]; exact List.map_id l
theorem dP_cP (l : List S61) : (l.map cP).map dP = l := by
 rw [List.map_map]
 have : dP ∘ cP = id := by funext p; obtain ⟨x, y, z, u⟩ := p; simp only [Function.comp, dP, cP, dT_cT, dS_cS, id]
 rw [this]; exact List.map_id l
theorem dW_cW (l : List S77) : (l.map cW).map dW = l := by rw [List.map_map]; exact List.map_id l
theorem dC_cC (l : List S78) : (l.map cC).map dC = l := by rw [List.map_map]; exact List.map_id l
theorem cP_few {l : List S61} (h : ∀ p ∈ l, fewP p) : ∀ p ∈ l.map cP, fewQ p := by
 intro p hp
 obtain ⟨q, hq, rfl⟩ := List.mem_map.1 hp
 have := h q hq
 simpa [fewQ, cP, fewP] using this
theorem clone_l0 (a b : Int) (l2 : List S42) (l3 x3 : List S49) (l4 : List S44) (h3 : l3.length ≤ 20) (hf : ∀ p ∈ l3, fewQ p) : ∀ d i, l3.length - i = d → i ≤ l3.length →
  Ev (fun k => conf_Clone.l0 k (l3.take i) l3 (l3.length : Int) (i : Int) a b l2 x3 l4) (a, b, l2, l3, l4) := by
 intro d
 induction d with
 | zero =>
  intro i hd hi
  obtain rfl : i = l3.length := by omega
  rw [List.take_length]
  exact Ev.step (f := fun _ => some (a, b, l2, l3, l4)) (fun k => by simp only [conf_Clone.l0]; rw [if_neg (by omega)]) (Ev.now _)
 | succ d ih =>
  intro i hd hi
  have hlt : i < l3.length := by omega
  have hq := hf _ (List.getElem_mem hlt)
  have e0 : conf_Task_52.f l3[i].f0 = some l3[i].f0 := by unfold conf_Task_52.f; rw [if_pos (by have := hq.1; omega)]
  have e1 : conf_Server_53.f l3[i].f1 = some l3[i].f1 := by unfold conf_Server_53.f; rw [if_pos (by have := hq.2.1; omega)]
  have e2 : slices_Clone_int_int.f l3[i].f2 = some l3[i].f2 := by unfold slices_Clone_int_int.f; rw [if_pos (by have := hq.2.2; omega)]
  refine Ev.step (fun k => by simp only [conf_Clone.l0]; rw [if_pos (by omega), if_pos (by omega), if_pos (by omega), show rd_T49 l3 (i : Int) = l3[i] from getD_nat l3 i _ hlt, e0, e1, e2, Option.bind_some, Option.bind_some, Option.bind_some, if_pos (by simp; omega), wrap_nat (by omega)]) ?_
  have := ih (i + 1) (by omega) (by omega)
  rw [List.take_succ_eq_append_getElem hlt] at this
  exact this
theorem clone_ev {a b : Int} {l2 : List S42} {l3 : List S49} {l4 : List S44} (h2 : l2.length ≤ 60) (h3 : l3.length ≤ 20) (h4 : l4.length ≤ 30) (hf : ∀ p ∈ l3, fewQ p) : Ev (fun k => conf_Clone.f k a b l2 l3 l4) (a, b, l2, l3, l4) := by
 have e0 : conf_Window_50.f l2 = some l2 := by unfold conf_Window_50.f; rw [if_pos (by omega)]
 have e1 : conf_Channel_51.f l4 = some l4 := by unfold conf_Channel_51.f; rw [if_pos (by omega)]
 refine Ev.congr (fun k => by unfold conf_Clone.f; rw [e0, e1, Option.bind_some, Option.bind_some]) ?_
 have := clone_l0 a b l2 l3 l3 l4 h3 hf l3.length 0 (by omega) (by omega)
 simpa using this
end Go.Proofs.Ytmjhnmdmopmfjaa.Fn
namespace Go.Proofs.Ytmjhnmdmopmfjaa.Fn
open Go.RowKit Go.Proofs.YtmjhnmdmopmfjaaW.PrintWords Go.Proofs.YtmjhnmdmopmfjaaW.PrintLast Go.Proofs.YtmjhnmdmopmfjaaW.PrintMore
attribute [local go_sem] max2_int min2_int max_two min_two max_three min_three max_four min_four
set_option linter.unusedVariables false
set_option linter.unusedSimpArgs false
theorem eqA42 (d : Nat) (w : World) (x0 y0 : Int) (x1 y1 : Int) (x2 y2 : Int) :
  (Op.equalIn (d + 2) 42 (.agg #[.int .i64 x0, .int .i64 x1, .int .i64 x2]) (.agg #[.int .i64 y0, .int .i64 y1, .int .i64 y2])).run Try.prog w = .ok (x0 == y0 && (x1 == y1 && (x2 == y2))) w := by
 refine eqA_of Try.underlying42 (by kernel_rfl) ?_
 refine eqf_cons (by rfl) (by go_simp; rfl) (by go_simp; rfl) (by go_simp) ?_
 refine eqf_cons (by rfl) (by go_simp; rfl) (by go_simp; rfl) (by go_simp) ?_
 exact eqf_last (by rfl) (by go_simp; rfl) (by go_simp; rfl) (by go_simp)
end Go.Proofs.Ytmjhnmdmopmfjaa.Fn
namespace Go.Proofs.Ytmjhnmdmopmfjaa.Fn
open Go.RowKit Go.Proofs.YtmjhnmdmopmfjaaW.PrintWords Go.Proofs.YtmjhnmdmopmfjaaW.PrintLast Go.Proofs.YtmjhnmdmopmfjaaW.PrintMore
attribute [local go_sem] max2_int min2_int max_two min_two max_three min_three max_four min_four
set_option linter.unusedVariables false
set_option linter.unusedSimpArgs false
attribute [local go_sem high] eqA42
def conf_Window_61.l0 : Nat → List (S42) → List (S42) → Int → Int → Option (Bool)
 | 0, _, _, _, _ => none
 | k + 1, x0, x1, x12, x13 => if x13 < x12 then (if 0 ≤ x13 then (if x13 < (x0.length : Int) then (if x13 < (x1.length : Int) then (if (!(((rd_T42 x0 x13).f0) == ((rd_T42 x1 x13).f0)) || (!(((rd_T42 x0 x13).f1) == ((rd_T42 x1 x13).f1)) || (!(((rd_T42 x0 x13).f2) == ((rd_T42 x1 x13).f2))))) = true then (some false) else (conf_Window_61.l0 k x0 x1 x12 (wrap64 (x13 + 1)))) else (none)) else (none)) else (none)) else (some true)
def conf_Window_61.f (k : Nat) (l0 : List (S42)) (l1 : List (S42)) : Option (Bool) := if (l0.length : Int) = (l1.length : Int) then (conf_Window_61.l0 k l0 l1 (l0.length : Int) 0) else (some false)
set_option maxHeartbeats 8000000 in
set_option maxRecDepth 100000 in
theorem conf_Window_61.calls (k : Nat) (A0 : Option Addr) (c0 : Nat) (l0 : List (S42)) (A1 : Option Addr) (c1 : Nat) (l1 : List (S42)) (r : Bool) (w : World) (hr0 : Kd.C k42 w A0 l0.length l0) (hc0 : l0.length ≤ c0) (hr1 : Kd.C k42 w A1 l1.length l1) (hc1 : l1.length ≤ c1) (h : conf_Window_61.f k l0 l1 = some r) :
  Calls Try.prog 61 #[.slice A0 l0.length c0, .slice A1 l1.length c1] w fun e w' => e = .returned (.bool r) ∧ Drawn0 w w' := by
 have hu42 := Try.underlying42
 have HR0 := asd hr0
 have HC0 := asd hc0
 clear hr0 hc0
 have HR1 := asd hr1
 have HC1 := asd hc1
 clear hr1 hc1
 have H : (if (l0.length : Int) = (l1.length : Int) then (conf_Window_61.l0 k l0 l1 (l0.length : Int) 0) else (some false)) = some r := h
 clear h
 by_cases c3 : (l0.length : Int) = (l1.length : Int)
 ·rw [if_pos c3] at H
  have c3b0 : ((l0.length : Int) == (l1.length : Int)) = true := beq_iff_eq.mpr c3
  have c3b1 : ((l0.length : Int) != (l1.length : Int)) = false := bne_eq_false_iff_eq.mpr c3
  have c3b2 : (l0.length == l1.length) = true := by first | simpa using c3 | (simp at c3 ⊢; omega)
  clear c3
  have H' := asd H
  clear H
  go_enter Try.func61, Try.ntmps61
  go_wp2
  repeat (go_quiet (fail); try go_wp2)
  go_loopg [13] k (fun kq v13 w' => ∃ (x13_1 : Int), v13 = .int .i64 x13_1 ∧ Aside0 (conf_Window_61.l0 kq l0 l1 (l0.length : Int) x13_1 = some r) ∧ Aside0 (kq ≤ k) ∧ Drawn0 w w')
  case atStart => exact ⟨(0), (by first | rfl | (simp; done) | (simp [*]; done)), H', ⟨Nat.le_refl _⟩, by repeat (first | exact Drawn0.refl _ | apply Drawn0.step)⟩
  case round =>
   clear H'
   try clear c1
   try clear p2
   try clear c3
   try clear c3b0
   try clear c3b1
   try clear c3b2
   obtain ⟨x13_1, rfl, HA, HK1, ⟨m1, rfl⟩⟩ := hrel
   cases gk with
   | zero => exact absurd HA.out (by simp [conf_Window_61.l0])
   | succ k1 =>
    have H := HA.out
    clear HA
    simp only [conf_Window_61.l0] at H
    by_cases c4 : x13_1 < (l0.length : Int)
    ·rw [if_pos c4] at H
     have c4b0 : decide (x13_1 < (l0.length : Int)) = true := decide_eq_true c4
     clear c4
     by_cases c5 : 0 ≤ x13_1
     ·rw [if_pos c5] at H
      have c5b0 : decide (0 ≤ x13_1) = true := decide_eq_true c5
      clear c5
      by_cases c6 : x13_1 < (l0.length : Int)
      ·rw [if_pos c6] at H
       have c6b0 : decide (x13_1 < (l0.length : Int)) = true := decide_eq_true c6
       clear c6
       by_cases c7 : x13_1 < (l1.length : Int)
       ·rw [if_pos c7] at H
        have c7b0 : decide (x13_1 < (l1.length : Int)) = true := decide_eq_true c7
        clear c7
        by_cases c8 : (!(((rd_T42 l0 x13_1).f0) == ((rd_T42 l1 x13_1).f0)) || (!(((rd_T42 l0 x13_1).f1) == ((rd_T42 l1 x13_1).f1)) || (!(((rd_T42 l0 x13_1).f2) == ((rd_T42 l1 x13_1).f2))))) = true
        ·rw [if_pos c8] at H
         have c8b0 : (!(((rd_T42 l0 x13_1).f0) == ((rd_T42 l1 x13_1).f0)) || (!(((rd_T42 l0 x13_1).f1) == ((rd_T42 l1 x13_1).f1)) || (!(((rd_T42 l0 x13_1).f2) == ((rd_T42 l1 x13_1).f2))))) = true := c8
         clear c8
         obtain rfl := Option.some.inj H
         have p381 : 0 ≤ (x13_1 : Int) := of_decide_eq_true (by assumption)
         have q381 : x13_1 < (l0.length : Int) := of_decide_eq_true (by assumption)
         obtain ⟨ad381, e381, hx381_0, hx381_1, hx381_2⟩ := at_T42 HR0.out x13_1 p381 q381
         cases e381
         replace p381 := eq_true p381
         replace q381 := eq_true q381
         have p382 : 0 ≤ (x13_1 : Int) := of_decide_eq_true (by assumption)
         have q382 : x13_1 < (l1.length : Int) := of_decide_eq_true (by assumption)
         obtain ⟨ad382, e382, hx382_0, hx382_1, hx382_2⟩ := at_T42 HR1.out x13_1 p382 q382
         cases e382
         replace p382 := eq_true p382
         replace q382 := eq_true q382
         go_wp2
         repeat (go_quiet (fail); try go_wp2)
         go_ret
         exact ⟨by first | rfl | (simp; done) | (simp [*]; done), by repeat (first | exact Drawn0.refl _ | apply Drawn0.step)⟩
        ·rw [if_neg c8] at H
         have c8b0 : (!(((rd_T42 l0 x13_1).f0) == ((rd_T42 l1 x13_1).f0)) || (!(((rd_T42 l0 x13_1).f1) == ((rd_T42 l1 x13_1).f1)) || (!(((rd_T42 l0 x13_1).f2) == ((rd_T42 l1 x13_1).f2))))) = false := by simpa using c8
         clear c8
         have H' := asd H
         clear H
         have p381 : 0 ≤ (x13_1 : Int) := of_decide_eq_true (by assumption)
         have q381 : x13_1 < (l0.length : Int) := of_decide_eq_true (by assumption)
         obtain ⟨ad381, e381, hx381_0, hx381_1, hx381_2⟩ := at_T42 HR0.out x13_1 p381 q381
         cases e381
         replace p381 := eq_true p381
         replace q381 := eq_true q381
         have p382 : 0 ≤ (x13_1 : Int) := of_decide_eq_true (by assumption)
         have q382 : x13_1 < (l1.length : Int) := of_decide_eq_true (by assumption)
         obtain ⟨ad382, e382, hx382_0, hx382_1, hx382_2⟩ := at_T42 HR1.out x13_1 p382 q382
         cases e382
         replace p382 := eq_true p382
         replace q382 := eq_true q382
         go_wp2
         repeat (go_quiet (fail); try go_wp2)
         go_roundg k1
         case measure => have := HK1.out; omega
         case rel => exact ⟨(wrap64 (x13_1 + 1)), (by first | rfl | (simp; done) | (simp [*]; done)), H', ⟨by have := HK1.out; omega⟩, by repeat (first | exact Drawn0.refl _ | apply Drawn0.step)⟩
       ·rw [if_neg c7] at H
        exact absurd H (by simp)
      ·rw [if_neg c6] at H
       exact absurd H (by simp)
     ·rw [if_neg c5] at H
      exact absurd H (by simp)
    ·rw [if_neg c4] at H
     have c4b0 : decide (x13_1 < (l0.length : Int)) = false := decide_eq_false c4
     clear c4
     obtain rfl := Option.some.inj H
     go_wp2
     repeat (go_quiet (fail); try go_wp2)
     go_ret
     exact ⟨by first | rfl | (simp; done) | (simp [*]; done), by repeat (first | exact Drawn0.refl _ | apply Drawn0.step)⟩
 ·rw [if_neg c3] at H
  have c3b0 : ((l0.length : Int) == (l1.length : Int)) = false := beq_eq_false_iff_ne.mpr c3
  have c3b1 : ((l0.length : Int) != (l1.length : Int)) = true := bne_iff_ne.mpr c3
  have c3b2 : (l0.length == l1.length) = false := by first | simpa using c3 | (simp at c3 ⊢; omega)
  obtain rfl := Option.some.inj H
  go_enter Try.func61, Try.ntmps61
  go_wp2
  repeat (go_quiet (fail); try go_wp2)
  go_ret
  exact ⟨by first | rfl | (simp; done) | (simp [*]; done), by repeat (first | exact Drawn0.refl _ | apply Drawn0.step)⟩
end Go.Proofs.Ytmjhnmdmopmfjaa.Fn
namespace Go.Proofs.Ytmjhnmdmopmfjaa.Fn
open Go.RowKit Go.Proofs.YtmjhnmdmopmfjaaW.PrintWords Go.Proofs.YtmjhnmdmopmfjaaW.PrintLast Go.Proofs.YtmjhnmdmopmfjaaW.PrintMore
attribute [local go_sem] max2_int min2_int max_two min_two max_three min_three max_four min_four
set_option linter.unusedVariables false
set_option linter.unusedSimpArgs false
theorem eqA47 (d : Nat) (w : World) (x0 y0 x1 y1 x2 y2 : Int) :
  (Op.equalIn (d + 2) 47 (.agg #[.int .u8 x0, .int .u8 x1, .int .u8 x2]) (.agg #[.int .u8 y0, .int .u8 y1, .int .u8 y2])).run Try.prog w = .ok (x0 == y0 && (x1 == y1 && (x2 == y2))) w := by
 rw [Op.equalIn]
 have h5 := Try.underlying5
 have h47 := Try.underlying47
 by_cases e0 : x0 = y0 <;> by_cases e1 : x1 = y1 <;> by_cases e2 : x2 = y2 <;>
 (simp [run_underlying h47, go_sem, Std.Legacy.Range.forIn_eq_forIn_range', Std.Legacy.Range.size, List.range', e0, e1, e2])
end Go.Proofs.Ytmjhnmdmopmfjaa.Fn
namespace Go.Proofs.Ytmjhnmdmopmfjaa.Fn
open Go.RowKit Go.Proofs.YtmjhnmdmopmfjaaW.PrintWords Go.Proofs.YtmjhnmdmopmfjaaW.PrintLast Go.Proofs.YtmjhnmdmopmfjaaW.PrintMore
attribute [local go_sem] max2_int min2_int max_two min_two max_three min_three max_four min_four
set_option linter.unusedVariables false
set_option linter.unusedSimpArgs false
theorem eqA51 (d : Nat) (w : World) (x0 y0 : Bool) (x1 y1 : Int) (x2 y2 : Int) (x3 y3 : Int) (x4 y4 : Int) (x5 y5 : Int) :
  (Op.equalIn (d + 2) 51 (.agg #[.bool x0, .int .i64 x1, .int .i64 x2, .int .i64 x3, .int .i64 x4, .int .i64 x5]) (.agg #[.bool y0, .int .i64 y1, .int .i64 y2, .int .i64 y3, .int .i64 y4, .int .i64 y5])).run Try.prog w = .ok (x0 == y0 && (x1 == y1 && (x2 == y2 && (x3 == y3 && (x4 == y4 && (x5 == y5)))))) w := by
 refine eqA_of Try.underlying51 (by kernel_rfl) ?_
 refine eqf_cons (by rfl) (by go_simp; rfl) (by go_simp; rfl) (by go_simp) ?_
 refine eqf_cons (by rfl) (by go_simp; rfl) (by go_simp; rfl) (by go_simp) ?_
 refine eqf_cons (by rfl) (by go_simp; rfl) (by go_simp; rfl) (by go_simp) ?_
 refine eqf_cons (by rfl) (by go_simp; rfl) (by go_simp; rfl) (by go_simp) ?_
 refine eqf_cons (by rfl) (by go_simp; rfl) (by go_simp; rfl) (by go_simp) ?_
 exact eqf_last (by rfl) (by go_simp; rfl) (by go_simp; rfl) (by go_simp)
end Go.Proofs.Ytmjhnmdmopmfjaa.Fn
namespace Go.Proofs.Ytmjhnmdmopmfjaa.Fn
open Go.RowKit Go.Proofs.YtmjhnmdmopmfjaaW.PrintWords Go.Proofs.YtmjhnmdmopmfjaaW.PrintLast Go.Proofs.YtmjhnmdmopmfjaaW.PrintMore
attribute [local go_sem] max2_int min2_int max_two min_two max_three min_three max_four min_four
set_option linter.unusedVariables false
set_option linter.unusedSimpArgs false
attribute [local go_sem high] eqA51
def conf_Task_106.l0 : Nat → List (S51) → List (S51) → Int → Int → Option (Bool)
 | 0, _, _, _, _ => none
 | k + 1, x0, x1, x12, x13 => if x13 < x12 then (if 0 ≤ x13 then (if x13 < (x0.length : Int) then (if x13 < (x1.length : Int) then (if (!(((rd_T51 x0 x13).f0) == ((rd_T51 x1 x13).f0)) || (!(((rd_T51 x0 x13).f1) == ((rd_T51 x1 x13).f1)) || (!(((rd_T51 x0 x13).f2) == ((rd_T51 x1 x13).f2)) || (!(((rd_T51 x0 x13).f3) == ((rd_T51 x1 x13).f3)) || (!(((rd_T51 x0 x13).f4) == ((rd_T51 x1 x13).f4)) || (!(((rd_T51 x0 x13).f5) == ((rd_T51 x1 x13).f5)))))))) = true then (some false) else (conf_Task_106.l0 k x0 x1 x12 (wrap64 (x13 + 1)))) else (none)) else (none)) else (none)) else (some true)
def conf_Task_106.f (k : Nat) (l0 : List (S51)) (l1 : List (S51)) : Option (Bool) := if (l0.length : Int) = (l1.length : Int) then (conf_Task_106.l0 k l0 l1 (l0.length : Int) 0) else (some false)
set_option maxHeartbeats 8000000 in
set_option maxRecDepth 100000 in
theorem conf_Task_106.calls (k : Nat) (A0 : Option Addr) (c0 : Nat) (l0 : List (S51)) (A1 : Option Addr) (c1 : Nat) (l1 : List (S51)) (r : Bool) (w : World) (hr0 : Kd.C k51 w A0 l0.length l0) (hc0 : l0.length ≤ c0) (hr1 : Kd.C k51 w A1 l1.length l1) (hc1 : l1.length ≤ c1) (h : conf_Task_106.f k l0 l1 = some r) :
  Calls Try.prog 106 #[.slice A0 l0.length c0, .slice A1 l1.length c1] w fun e w' => e = .returned (.bool r) ∧ Drawn0 w w' := by
 have hu51 := Try.underlying51
 have HR0 := asd hr0
 have HC0 := asd hc0
 clear hr0 hc0
 have HR1 := asd hr1
 have HC1 := asd hc1
 clear hr1 hc1
 have H : (if (l0.length : Int) = (l1.length : Int) then (conf_Task_106.l0 k l0 l1 (l0.length : Int) 0) else (some false)) = some r := h
 clear h
 by_cases c3 : (l0.length : Int) = (l1.length : Int)
 ·rw [if_pos c3] at H
  have c3b0 : ((l0.length : Int) == (l1.length : Int)) = true := beq_iff_eq.mpr c3
  have c3b1 : ((l0.length : Int) != (l1.length : Int)) = false := bne_eq_false_iff_eq.mpr c3
  have c3b2 : (l0.length == l1.length) = true := by first | simpa using c3 | (simp at c3 ⊢; omega)
  clear c3
  have H' := asd H
  clear H
  go_enter Try.func106, Try.ntmps106
  go_wp2
  repeat (go_quiet (fail); try go_wp2)
  go_loopg [13] k (fun kq v13 w' => ∃ (x13_1 : Int), v13 = .int .i64 x13_1 ∧ Aside0 (conf_Task_106.l0 kq l0 l1 (l0.length : Int) x13_1 = some r) ∧ Aside0 (kq ≤ k) ∧ Drawn0 w w')
  case atStart => exact ⟨(0), (by first | rfl | (simp; done) | (simp [*]; done)), H', ⟨Nat.le_refl _⟩, by repeat (first | exact Drawn0.refl _ | apply Drawn0.step)⟩
  case round =>
   clear H'
   try clear c1
   try clear p2
   try clear c3
   try clear c3b0
   try clear c3b1
   try clear c3b2
   obtain ⟨x13_1, rfl, HA, HK1, ⟨m1, rfl⟩⟩ := hrel
   cases gk with
   | zero => exact absurd HA.out (by simp [conf_Task_106.l0])
   | succ k1 =>
    have H := HA.out
    clear HA
    simp only [conf_Task_106.l0] at H
    by_cases c4 : x13_1 < (l0.length : Int)
    ·rw [if_pos c4] at H
     have c4b0 : decide (x13_1 < (l0.length : Int)) = true := decide_eq_true c4
     clear c4
     by_cases c5 : 0 ≤ x13_1
     ·rw [if_pos c5] at H
      have c5b0 : decide (0 ≤ x13_1) = true := decide_eq_true c5
      clear c5
      by_cases c6 : x13_1 < (l0.length : Int)
      ·rw [if_pos c6] at H
       have c6b0 : decide (x13_1 < (l0.length : Int)) = true := decide_eq_true c6
       clear c6
       by_cases c7 : x13_1 < (l1.length : Int)
       ·rw [if_pos c7] at H
        have c7b0 : decide (x13_1 < (l1.length : Int)) = true := decide_eq_true c7
        clear c7
        by_cases c8 : (!(((rd_T51 l0 x13_1).f0) == ((rd_T51 l1 x13_1).f0)) || (!(((rd_T51 l0 x13_1).f1) == ((rd_T51 l1 x13_1).f1)) || (!(((rd_T51 l0 x13_1).f2) == ((rd_T51 l1 x13_1).f2)) || (!(((rd_T51 l0 x13_1).f3) == ((rd_T51 l1 x13_1).f3)) || (!(((rd_T51 l0 x13_1).f4) == ((rd_T51 l1 x13_1).f4)) || (!(((rd_T51 l0 x13_1).f5) == ((rd_T51 l1 x13_1).f5)))))))) = true
        ·rw [if_pos c8] at H
         have c8b0 : (!(((rd_T51 l0 x13_1).f0) == ((rd_T51 l1 x13_1).f0)) || (!(((rd_T51 l0 x13_1).f1) == ((rd_T51 l1 x13_1).f1)) || (!(((rd_T51 l0 x13_1).f2) == ((rd_T51 l1 x13_1).f2)) || (!(((rd_T51 l0 x13_1).f3) == ((rd_T51 l1 x13_1).f3)) || (!(((rd_T51 l0 x13_1).f4) == ((rd_T51 l1 x13_1).f4)) || (!(((rd_T51 l0 x13_1).f5) == ((rd_T51 l1 x13_1).f5)))))))) = true := c8
         clear c8
         obtain rfl := Option.some.inj H
         have p383 : 0 ≤ (x13_1 : Int) := of_decide_eq_true (by assumption)
         have q383 : x13_1 < (l0.length : Int) := of_decide_eq_true (by assumption)
         obtain ⟨ad383, e383, hx383_0, hx383_1, hx383_2, hx383_3, hx383_4, hx383_5⟩ := at_T51 HR0.out x13_1 p383 q383
         cases e383
         replace p383 := eq_true p383
         replace q383 := eq_true q383
         have p384 : 0 ≤ (x13_1 : Int) := of_decide_eq_true (by assumption)
         have q384 : x13_1 < (l1.length : Int) := of_decide_eq_true (by assumption)
         obtain ⟨ad384, e384, hx384_0, hx384_1, hx384_2, hx384_3, hx384_4, hx384_5⟩ := at_T51 HR1.out x13_1 p384 q384
         cases e384
         replace p384 := eq_true p384
         replace q384 := eq_true q384
         go_wp2
         repeat (go_quiet (fail); try go_wp2)
         go_ret
         exact ⟨by first | rfl | (simp; done) | (simp [*]; done), by repeat (first | exact Drawn0.refl _ | apply Drawn0.step)⟩
        ·rw [if_neg c8] at H
         have c8b0 : (!(((rd_T51 l0 x13_1).f0) == ((rd_T51 l1 x13_1).f0)) || (!(((rd_T51 l0 x13_1).f1) == ((rd_T51 l1 x13_1).f1)) || (!(((rd_T51 l0 x13_1).f2) == ((rd_T51 l1 x13_1).f2)) || (!(((rd_T51 l0 x13_1).f3) == ((rd_T51 l1 x13_1).f3)) || (!(((rd_T51 l0 x13_1).f4) == ((rd_T51 l1 x13_1).f4)) || (!(((rd_T51 l0 x13_1).f5) == ((rd_T51 l1 x13_1).f5)))))))) = false := by simpa using c8
         clear c8
         have H' := asd H
         clear H
         have p383 : 0 ≤ (x13_1 : Int) := of_decide_eq_true (by assumption)
         have q383 : x13_1 < (l0.length : Int) := of_decide_eq_true (by assumption)
         obtain ⟨ad383, e383, hx383_0, hx383_1, hx383_2, hx383_3, hx383_4, hx383_5⟩ := at_T51 HR0.out x13_1 p383 q383
         cases e383
         replace p383 := eq_true p383
         replace q383 := eq_true q383
         have p384 : 0 ≤ (x13_1 : Int) := of_decide_eq_true (by assumption)
         have q384 : x13_1 < (l1.length : Int) := of_decide_eq_true (by assumption)
         obtain ⟨ad384, e384, hx384_0, hx384_1, hx384_2, hx384_3, hx384_4, hx384_5⟩ := at_T51 HR1.out x13_1 p384 q384
         cases e384
         replace p384 := eq_true p384
         replace q384 := eq_true q384
         go_wp2
         repeat (go_quiet (fail); try go_wp2)
         go_roundg k1
         case measure => have := HK1.out; omega
         case rel => exact ⟨(wrap64 (x13_1 + 1)), (by first | rfl | (simp; done) | (simp [*]; done)), H', ⟨by have := HK1.out; omega⟩, by repeat (first | exact Drawn0.refl _ | apply Drawn0.step)⟩
       ·rw [if_neg c7] at H
        exact absurd H (by simp)
      ·rw [if_neg c6] at H
       exact absurd H (by simp)
     ·rw [if_neg c5] at H
      exact absurd H (by simp)
    ·rw [if_neg c4] at H
     have c4b0 : decide (x13_1 < (l0.length : Int)) = false := decide_eq_false c4
     clear c4
     obtain rfl := Option.some.inj H
     go_wp2
     repeat (go_quiet (fail); try go_wp2)
     go_ret
     exact ⟨by first | rfl | (simp; done) | (simp [*]; done), by repeat (first | exact Drawn0.refl _ | apply Drawn0.step)⟩
 ·rw [if_neg c3] at H
  have c3b0 : ((l0.length : Int) == (l1.length : Int)) = false := beq_eq_false_iff_ne.mpr c3
  have c3b1 : ((l0.length : Int) != (l1.length : Int)) = true := bne_iff_ne.mpr c3
  have c3b2 : (l0.length == l1.length) = false := by first | simpa using c3 | (simp at c3 ⊢; omega)
  obtain rfl := Option.some.inj H
  go_enter Try.func106, Try.ntmps106
  go_wp2
  repeat (go_quiet (fail); try go_wp2)
  go_ret
  exact ⟨by first | rfl | (simp; done) | (simp [*]; done), by repeat (first | exact Drawn0.refl _ | apply Drawn0.step)⟩
end Go.Proofs.Ytmjhnmdmopmfjaa.Fn
namespace Go.Proofs.Ytmjhnmdmopmfjaa.Fn
open Go.RowKit Go.Proofs.YtmjhnmdmopmfjaaW.PrintWords Go.Proofs.YtmjhnmdmopmfjaaW.PrintLast Go.Proofs.YtmjhnmdmopmfjaaW.PrintMore
attribute [local go_sem] max2_int min2_int max_two min_two max_three min_three max_four min_four
set_option linter.unusedVariables false
set_option linter.unusedSimpArgs false
theorem eqA53 (d : Nat) (w : World) (x0 y0 : Bool) (x1 y1 : Int) (x2 y2 : Int) :
  (Op.equalIn (d + 2) 53 (.agg #[.bool x0, .int .i64 x1, .int .i64 x2]) (.agg #[.bool y0, .int .i64 y1, .int .i64 y2])).run Try.prog w = .ok (x0 == y0 && (x1 == y1 && (x2 == y2))) w := by
 refine eqA_of Try.underlying53 (by kernel_rfl) ?_
 refine eqf_cons (by rfl) (by go_simp; rfl) (by go_simp; rfl) (by go_simp) ?_
 refine eqf_cons (by rfl) (by go_simp; rfl) (by go_simp; rfl) (by go_simp) ?_
 exact eqf_last (by rfl) (by go_simp; rfl) (by go_simp; rfl) (by go_simp)
end Go.Proofs.Ytmjhnmdmopmfjaa.Fn
namespace Go.Proofs.Ytmjhnmdmopmfjaa.Fn
open Go.RowKit Go.Proofs.YtmjhnmdmopmfjaaW.PrintWords Go.Proofs.YtmjhnmdmopmfjaaW.PrintLast Go.Proofs.YtmjhnmdmopmfjaaW.PrintMore
attribute [local go_sem] max2_int min2_int max_two min_two max_three min_three max_four min_four
set_option linter.unusedVariables false
set_option linter.unusedSimpArgs false
attribute [local go_sem high] eqA53
def conf_Server_107.l0 : Nat → List (S53) → List (S53) → Int → Int → Option (Bool)
 | 0, _, _, _, _ => none
 | k + 1, x0, x1, x12, x13 => if x13 < x12 then (if 0 ≤ x13 then (if x13 < (x0.length : Int) then (if x13 < (x1.length : Int) then (if (!(((rd_T53 x0 x13).f0) == ((rd_T53 x1 x13).f0)) || (!(((rd_T53 x0 x13).f1) == ((rd_T53 x1 x13).f1)) || (!(((rd_T53 x0 x13).f2) == ((rd_T53 x1 x13).f2))))) = true then (some false) else (conf_Server_107.l0 k x0 x1 x12 (wrap64 (x13 + 1)))) else (none)) else (none)) else (none)) else (some true)
def conf_Server_107.f (k : Nat) (l0 : List (S53)) (l1 : List (S53)) : Option (Bool) := if (l0.length : Int) = (l1.length : Int) then (conf_Server_107.l0 k l0 l1 (l0.length : Int) 0) else (some false)
set_option maxHeartbeats 8000000 in
set_option maxRecDepth 100000 in
theorem conf_Server_107.calls (k : Nat) (A0 : Option Addr) (c0 : Nat) (l0 : List (S53)) (A1 : Option Addr) (c1 : Nat) (l1 : List (S53)) (r : Bool) (w : World) (hr0 : Kd.C k53 w A0 l0.length l0) (hc0 : l0.length ≤ c0) (hr1 : Kd.C k53 w A1 l1.length l1) (hc1 : l1.length ≤ c1) (h : conf_Server_107.f k l0 l1 = some r) :
  Calls Try.prog 107 #[.slice A0 l0.length c0, .slice A1 l1.length c1] w fun e w' => e = .returned (.bool r) ∧ Drawn0 w w' := by
 have hu53 := Try.underlying53
 have HR0 := asd hr0
 have HC0 := asd hc0
 clear hr0 hc0
 have HR1 := asd hr1
 have HC1 := asd hc1
 clear hr1 hc1
 have H : (if (l0.length : Int) = (l1.length : Int) then (conf_Server_107.l0 k l0 l1 (l0.length : Int) 0) else (some false)) = some r := h
 clear h
 by_cases c3 : (l0.length : Int) = (l1.length : Int)
 ·rw [if_pos c3] at H
  have c3b0 : ((l0.length : Int) == (l1.length : Int)) = true := beq_iff_eq.mpr c3
  have c3b1 : ((l0.length : Int) != (l1.length : Int)) = false := bne_eq_false_iff_eq.mpr c3
  have c3b2 : (l0.length == l1.length) = true := by first | simpa using c3 | (simp at c3 ⊢; omega)
  clear c3
  have H' := asd H
  clear H
  go_enter Try.func107, Try.ntmps107
  go_wp2
  repeat (go_quiet (fail); try go_wp2)
  go_loopg [13] k (fun kq v13 w' => ∃ (x13_1 : Int), v13 = .int .i64 x13_1 ∧ Aside0 (conf_Server_107.l0 kq l0 l1 (l0.length : Int) x13_1 = some r) ∧ Aside0 (kq ≤ k) ∧ Drawn0 w w')
  case atStart => exact ⟨(0), (by first | rfl | (simp; done) | (simp [*]; done)), H', ⟨Nat.le_refl _⟩, by repeat (first | exact Drawn0.refl _ | apply Drawn0.step)⟩
  case round =>
   clear H'
   try clear c1
   try clear p2
   try clear c3
   try clear c3b0
   try clear c3b1
   try clear c3b2
   obtain ⟨x13_1, rfl, HA, HK1, ⟨m1, rfl⟩⟩ := hrel
   cases gk with
   | zero => exact absurd HA.out (by simp [conf_Server_107.l0])
   | succ k1 =>
    have H := HA.out
    clear HA
    simp only [conf_Server_107.l0] at H
    by_cases c4 : x13_1 < (l0.length : Int)
    ·rw [if_pos c4] at H
     have c4b0 : decide (x13_1 < (l0.length : Int)) = true := decide_eq_true c4
     clear c4
     by_cases c5 : 0 ≤ x13_1
     ·rw [if_pos c5] at H
      have c5b0 : decide (0 ≤ x13_1) = true := decide_eq_true c5
      clear c5
      by_cases c6 : x13_1 < (l0.length : Int)
      ·rw [if_pos c6] at H
       have c6b0 : decide (x13_1 < (l0.length : Int)) = true := decide_eq_true c6
       clear c6
       by_cases c7 : x13_1 < (l1.length : Int)
       ·rw [if_pos c7] at H
        have c7b0 : decide (x13_1 < (l1.length : Int)) = true := decide_eq_true c7
        clear c7
        by_cases c8 : (!(((rd_T53 l0 x13_1).f0) == ((rd_T53 l1 x13_1).f0)) || (!(((rd_T53 l0 x13_1).f1) == ((rd_T53 l1 x13_1).f1)) || (!(((rd_T53 l0 x13_1).f2) == ((rd_T53 l1 x13_1).f2))))) = true
        ·rw [if_pos c8] at H
         have c8b0 : (!(((rd_T53 l0 x13_1).f0) == ((rd_T53 l1 x13_1).f0)) || (!(((rd_T53 l0 x13_1).f1) == ((rd_T53 l1 x13_1).f1)) || (!(((rd_T53 l0 x13_1).f2) == ((rd_T53 l1 x13_1).f2))))) = true := c8
         clear c8
         obtain rfl := Option.some.inj H
         have p385 : 0 ≤ (x13_1 : Int) := of_decide_eq_true (by assumption)
         have q385 : x13_1 < (l0.length : Int) := of_decide_eq_true (by assumption)
         obtain ⟨ad385, e385, hx385_0, hx385_1, hx385_2⟩ := at_T53 HR0.out x13_1 p385 q385
         cases e385
         replace p385 := eq_true p385
         replace q385 := eq_true q385
         have p386 : 0 ≤ (x13_1 : Int) := of_decide_eq_true (by assumption)
         have q386 : x13_1 < (l1.length : Int) := of_decide_eq_true (by assumption)
         obtain ⟨ad386, e386, hx386_0, hx386_1, hx386_2⟩ := at_T53 HR1.out x13_1 p386 q386
         cases e386
         replace p386 := eq_true p386
         replace q386 := eq_true q386
         go_wp2
         repeat (go_quiet (fail); try go_wp2)
         go_ret
         exact ⟨by first | rfl | (simp; done) | (simp [*]; done), by repeat (first | exact Drawn0.refl _ | apply Drawn0.step)⟩
        ·rw [if_neg c8] at H
         have c8b0 : (!(((rd_T53 l0 x13_1).f0) == ((rd_T53 l1 x13_1).f0)) || (!(((rd_T53 l0 x13_1).f1) == ((rd_T53 l1 x13_1).f1)) || (!(((rd_T53 l0 x13_1).f2) == ((rd_T53 l1 x13_1).f2))))) = false := by simpa using c8
         clear c8
         have H' := asd H
         clear H
         have p385 : 0 ≤ (x13_1 : Int) := of_decide_eq_true (by assumption)
         have q385 : x13_1 < (l0.length : Int) := of_decide_eq_true (by assumption)
         obtain ⟨ad385, e385, hx385_0, hx385_1, hx385_2⟩ := at_T53 HR0.out x13_1 p385 q385
         cases e385
         replace p385 := eq_true p385
         replace q385 := eq_true q385
         have p386 : 0 ≤ (x13_1 : Int) := of_decide_eq_true (by assumption)
         have q386 : x13_1 < (l1.length : Int) := of_decide_eq_true (by assumption)
         obtain ⟨ad386, e386, hx386_0, hx386_1, hx386_2⟩ := at_T53 HR1.out x13_1 p386 q386
         cases e386
         replace p386 := eq_true p386
         replace q386 := eq_true q386
         go_wp2
         repeat (go_quiet (fail); try go_wp2)
         go_roundg k1
         case measure => have := HK1.out; omega
         case rel => exact ⟨(wrap64 (x13_1 + 1)), (by first | rfl | (simp; done) | (simp [*]; done)), H', ⟨by have := HK1.out; omega⟩, by repeat (first | exact Drawn0.refl _ | apply Drawn0.step)⟩
       ·rw [if_neg c7] at H
        exact absurd H (by simp)
      ·rw [if_neg c6] at H
       exact absurd H (by simp)
     ·rw [if_neg c5] at H
      exact absurd H (by simp)
    ·rw [if_neg c4] at H
     have c4b0 : decide (x13_1 < (l0.length : Int)) = false := decide_eq_false c4
     clear c4
     obtain rfl := Option.some.inj H
     go_wp2
     repeat (go_quiet (fail); try go_wp2)
     go_ret
     exact ⟨by first | rfl | (simp; done) | (simp [*]; done), by repeat (first | exact Drawn0.refl _ | apply Drawn0.step)⟩
 ·rw [if_neg c3] at H
  have c3b0 : ((l0.length : Int) == (l1.length : Int)) = false := beq_eq_false_iff_ne.mpr c3
  have c3b1 : ((l0.length : Int) != (l1.length : Int)) = true := bne_iff_ne.mpr c3
  have c3b2 : (l0.length == l1.length) = false := by first | simpa using c3 | (simp at c3 ⊢; omega)
  obtain rfl := Option.some.inj H
  go_enter Try.func107, Try.ntmps107
  go_wp2
  repeat (go_quiet (fail); try go_wp2)
  go_ret
  exact ⟨by first | rfl | (simp; done) | (simp [*]; done), by repeat (first | exact Drawn0.refl _ | apply Drawn0.step)⟩
end Go.Proofs.Ytmjhnmdmopmfjaa.Fn
namespace Go.Proofs.Ytmjhnmdmopmfjaa.Fn
open Go.RowKit Go.Proofs.YtmjhnmdmopmfjaaW.PrintWords Go.Proofs.YtmjhnmdmopmfjaaW.PrintLast Go.Proofs.YtmjhnmdmopmfjaaW.PrintMore
attribute [local go_sem] max2_int min2_int max_two min_two max_three min_three max_four min_four
set_option linter.unusedVariables false
set_option linter.unusedSimpArgs false
def slices_Equal_int_int.l0 : Nat → List Int → List Int → Int → Int → Option (Bool)
 | 0, _, _, _, _ => none
 | k + 1, x0, x1, x12, x13 => if x13 < x12 then (if 0 ≤ x13 then (if x13 < (x0.length : Int) then (if x13 < (x1.length : Int) then (if (rd x0 x13) = (rd x1 x13) then (slices_Equal_int_int.l0 k x0 x1 x12 (wrap64 (x13 + 1))) else (some false)) else (none)) else (none)) else (none)) else (some true)
def slices_Equal_int_int.f (k : Nat) (l0 : List Int) (l1 : List Int) : Option (Bool) := if (l0.length : Int) = (l1.length : Int) then (slices_Equal_int_int.l0 k l0 l1 (l0.length : Int) 0) else (some false)
set_option maxHeartbeats 8000000 in
set_option maxRecDepth 100000 in
theorem slices_Equal_int_int.calls (k : Nat) (A0 : Option Addr) (c0 : Nat) (l0 : List Int) (A1 : Option Addr) (c1 : Nat) (l1 : List Int) (r : Bool) (w : World) (hr0 : Kd.C (Kd.int .i64) w A0 l0.length l0) (hc0 : l0.length ≤ c0) (hr1 : Kd.C (Kd.int .i64) w A1 l1.length l1) (hc1 : l1.length ≤ c1) (h : slices_Equal_int_int.f k l0 l1 = some r) :
  Calls Try.prog 108 #[.slice A0 l0.length c0, .slice A1 l1.length c1] w fun e w' => e = .returned (.bool r) ∧ Drawn0 w w' := by
 have HR0 := asd hr0
 have HC0 := asd hc0
 clear hr0 hc0
 have HR1 := asd hr1
 have HC1 := asd hc1
 clear hr1 hc1
 have H : (if (l0.length : Int) = (l1.length : Int) then (slices_Equal_int_int.l0 k l0 l1 (l0.length : Int) 0) else (some false)) = some r := h
 clear h
 by_cases c3 : (l0.length : Int) = (l1.length : Int)
 ·rw [if_pos c3] at H
  have c3b0 : ((l0.length : Int) == (l1.length : Int)) = true := beq_iff_eq.mpr c3
  have c3b1 : ((l0.length : Int) != (l1.length : Int)) = false := bne_eq_false_iff_eq.mpr c3
  have c3b2 : (l0.length == l1.length) = true := by first | simpa using c3 | (simp at c3 ⊢; omega)
  clear c3
  have H' := asd H
  clear H
  go_enter Try.func108, Try.ntmps108
  go_wp2
  repeat (go_quiet (fail); try go_wp2)
  go_loopg [13] k (fun kq v13 w' => ∃ (x13_1 : Int), v13 = .int .i64 x13_1 ∧ Aside0 (slices_Equal_int_int.l0 kq l0 l1 (l0.length : Int) x13_1 = some r) ∧ Aside0 (kq ≤ k) ∧ Drawn0 w w')
  case atStart => exact ⟨(0), (by first | rfl | (simp; done) | (simp [*]; done)), H', ⟨Nat.le_refl _⟩, by repeat (first | exact Drawn0.refl _ | apply Drawn0.step)⟩
  case round =>
   clear H'
   try clear c1
   try clear p2
   try clear c3
   try clear c3b0
   try clear c3b1
   try clear c3b2
   obtain ⟨x13_1, rfl, HA, HK1, ⟨m1, rfl⟩⟩ := hrel
   cases gk with
   | zero => exact absurd HA.out (by simp [slices_Equal_int_int.l0])
   | succ k1 =>
    have H := HA.out
    clear HA
    simp only [slices_Equal_int_int.l0] at H
    by_cases c4 : x13_1 < (l0.length : Int)
    ·rw [if_pos c4] at H
     have c4b0 : decide (x13_1 < (l0.length : Int)) = true := decide_eq_true c4
     clear c4
     by_cases c5 : 0 ≤ x13_1
     ·rw [if_pos c5] at H
      have c5b0 : decide (0 ≤ x13_1) = true := decide_eq_true c5
      clear c5
      by_cases c6 : x13_1 < (l0.length : Int)
      ·rw [if_pos c6] at H
       have c6b0 : decide (x13_1 < (l0.length : Int)) = true := decide_eq_true c6
       clear c6
       by_cases c7 : x13_1 < (l1.length : Int)
       ·rw [if_pos c7] at H
        have c7b0 : decide (x13_1 < (l1.length : Int)) = true := decide_eq_true c7
        clear c7
        by_cases c8 : (rd l0 x13_1) = (rd l1 x13_1)
        ·rw [if_pos c8] at H
         have c8b0 : ((rd l0 x13_1) == (rd l1 x13_1)) = true := beq_iff_eq.mpr c8
         have c8b1 : ((rd l0 x13_1) != (rd l1 x13_1)) = false := bne_eq_false_iff_eq.mpr c8
         clear c8
         have H' := asd H
         clear H
         have p387 : 0 ≤ (x13_1 : Int) := of_decide_eq_true (by assumption)
         have q387 : x13_1 < (l0.length : Int) := of_decide_eq_true (by assumption)
         obtain ⟨ad387, e387, hx387_0⟩ := Kd.at_int HR0.out x13_1 p387 q387
         cases e387
         replace p387 := eq_true p387
         replace q387 := eq_true q387
         have p388 : 0 ≤ (x13_1 : Int) := of_decide_eq_true (by assumption)
         have q388 : x13_1 < (l1.length : Int) := of_decide_eq_true (by assumption)
         obtain ⟨ad388, e388, hx388_0⟩ := Kd.at_int HR1.out x13_1 p388 q388
         cases e388
         replace p388 := eq_true p388
         replace q388 := eq_true q388
         go_wp2
         repeat (go_quiet (fail); try go_wp2)
         go_roundg k1
         case measure => have := HK1.out; omega
         case rel => exact ⟨(wrap64 (x13_1 + 1)), (by first | rfl | (simp; done) | (simp [*]; done)), H', ⟨by have := HK1.out; omega⟩, by repeat (first | exact Drawn0.refl _ | apply Drawn0.step)⟩
        ·rw [if_neg c8] at H
         have c8b0 : ((rd l0 x13_1) == (rd l1 x13_1)) = false := beq_eq_false_iff_ne.mpr c8
         have c8b1 : ((rd l0 x13_1) != (rd l1 x13_1)) = true := bne_iff_ne.mpr c8
         obtain rfl := Option.some.inj H
         have p387 : 0 ≤ (x13_1 : Int) := of_decide_eq_true (by assumption)
         have q387 : x13_1 < (l0.length : Int) := of_decide_eq_true (by assumption)
         obtain ⟨ad387, e387, hx387_0⟩ := Kd.at_int HR0.out x13_1 p387 q387
         cases e387
         replace p387 := eq_true p387
         replace q387 := eq_true q387
         have p388 : 0 ≤ (x13_1 : Int) := of_decide_eq_true (by assumption)
         have q388 : x13_1 < (l1.length : Int) := of_decide_eq_true (by assumption)
         obtain ⟨ad388, e388, hx388_0⟩ := Kd.at_int HR1.out x13_1 p388 q388
         cases e388
         replace p388 := eq_true p388
         replace q388 := eq_true q388
         go_wp2
         repeat (go_quiet (fail); try go_wp2)
         go_ret
         exact ⟨by first | rfl | (simp; done) | (simp [*]; done), by repeat (first | exact Drawn0.refl _ | apply Drawn0.step)⟩
       ·rw [if_neg c7] at H
        exact absurd H (by simp)
      ·rw [if_neg c6] at H
       exact absurd H (by simp)
     ·rw [if_neg c5] at H
      exact absurd H (by simp)
    ·rw [if_neg c4] at H
     have c4b0 : decide (x13_1 < (l0.length : Int)) = false := decide_eq_false c4
     clear c4
     obtain rfl := Option.some.inj H
     go_wp2
     repeat (go_quiet (fail); try go_wp2)
     go_ret
     exact ⟨by first | rfl | (simp; done) | (simp [*]; done), by repeat (first | exact Drawn0.refl _ | apply Drawn0.step)⟩
 ·rw [if_neg c3] at H
  have c3b0 : ((l0.length : Int) == (l1.length : Int)) = false := beq_eq_false_iff_ne.mpr c3
  have c3b1 : ((l0.length : Int) != (l1.length : Int)) = true := bne_iff_ne.mpr c3
  have c3b2 : (l0.length == l1.length) = false := by first | simpa using c3 | (simp at c3 ⊢; omega)
  obtain rfl := Option.some.inj H
  go_enter Try.func108, Try.ntmps108
  go_wp2
  repeat (go_quiet (fail); try go_wp2)
  go_ret
  exact ⟨by first | rfl | (simp; done) | (simp [*]; done), by repeat (first | exact Drawn0.refl _ | apply Drawn0.step)⟩
end Go.Proofs.Ytmjhnmdmopmfjaa.Fn
namespace Go.Proofs.Ytmjhnmdmopmfjaa.Fn
open Go.RowKit Go.Proofs.YtmjhnmdmopmfjaaW.PrintWords Go.Proofs.YtmjhnmdmopmfjaaW.PrintLast Go.Proofs.YtmjhnmdmopmfjaaW.PrintMore
attribute [local go_sem] max2_int min2_int max_two min_two max_three min_three max_four min_four
set_option linter.unusedVariables false
set_option linter.unusedSimpArgs false
attribute [local go_sem high] eqA47
def conf_same.f (k : Nat) (l0_0 : List (S51)) (l0_1 : List (S53)) (l0_2 : List Int) (a0_3 : Int) (a0_4 : Int) (a0_5 : Int) (l1_0 : List (S51)) (l1_1 : List (S53)) (l1_2 : List Int) (a1_3 : Int) (a1_4 : Int) (a1_5 : Int) : Option (Bool) := (conf_Task_106.f k l0_0 l1_0).bind fun t391 => (if t391 = true then ((conf_Server_107.f k l0_1 l1_1).bind fun t392 => (if t392 = true then ((slices_Equal_int_int.f k l0_2 l1_2).bind fun t393 => (if t393 = true then (some (a0_3 == a1_3 && (a0_4 == a1_4 && (a0_5 == a1_5)))) else (some false))) else (some false))) else (some false))
set_option maxHeartbeats 8000000 in
set_option maxRecDepth 100000 in
theorem conf_same.calls (k : Nat) (A0_0 : Option Addr) (c0_0 : Nat) (l0_0 : List (S51)) (A0_1 : Option Addr) (c0_1 : Nat) (l0_1 : List (S53)) (A0_2 : Option Addr) (c0_2 : Nat) (l0_2 : List Int) (a0_3 : Int) (a0_4 : Int) (a0_5 : Int) (A1_0 : Option Addr) (c1_0 : Nat) (l1_0 : List (S51)) (A1_1 : Option Addr) (c1_1 : Nat) (l1_1 : List (S53)) (A1_2 : Option Addr) (c1_2 : Nat) (l1_2 : List Int) (a1_3 : Int) (a1_4 : Int) (a1_5 : Int) (r : Bool) (w : World) (hr0_0 : Kd.C k51 w A0_0 l0_0.length l0_0) (hc0_0 : l0_0.length ≤ c0_0) (hr0_1 : Kd.C k53 w A0_1 l0_1.length l0_1) (hc0_1 : l0_1.length ≤ c0_1) (hr0_2 : Kd.C (Kd.int .i64) w A0_2 l0_2.length l0_2) (hc0_2 : l0_2.length ≤ c0_2) (hr1_0 : Kd.C k51 w A1_0 l1_0.length l1_0) (hc1_0 : l1_0.length ≤ c1_0) (hr1_1 : Kd.C k53 w A1_1 l1_1.length l1_1) (hc1_1 : l1_1.length ≤ c1_1) (hr1_2 : Kd.C (Kd.int .i64) w A1_2 l1_2.length l1_2) (hc1_2 : l1_2.length ≤ c1_2) (h : conf_same.f k l0_0 l0_1 l0_2 a0_3 a0_4 a0_5 l1_0 l1_1 l1_2 a1_3 a1_4 a1_5 = some r) :
  Calls Try.prog 63 #[.agg #[.slice A0_0 l0_0.length c0_0, .slice A0_1 l0_1.length c0_1, .slice A0_2 l0_2.length c0_2, .int .u8 a0_3, .int .u8 a0_4, .int .u8 a0_5], .agg #[.slice A1_0 l1_0.length c1_0, .slice A1_1 l1_1.length c1_1, .slice A1_2 l1_2.length c1_2, .int .u8 a1_3, .int .u8 a1_4, .int .u8 a1_5]] w fun e w' => e = .returned (.bool r) ∧ Below w.heap.size w w' := by
 have hu49 := Try.underlying49
 have hu47 := Try.underlying47
 have HR0_0 := asd hr0_0
 have HC0_0 := asd hc0_0
 clear hr0_0 hc0_0
 have HR0_1 := asd hr0_1
 have HC0_1 := asd hc0_1
 clear hr0_1 hc0_1
 have HR0_2 := asd hr0_2
 have HC0_2 := asd hc0_2
 clear hr0_2 hc0_2
 have HR1_0 := asd hr1_0
 have HC1_0 := asd hc1_0
 clear hr1_0 hc1_0
 have HR1_1 := asd hr1_1
 have HC1_1 := asd hc1_1
 clear hr1_1 hc1_1
 have HR1_2 := asd hr1_2
 have HC1_2 := asd hc1_2
 clear hr1_2 hc1_2
 have HB := asd (Below.refl w.heap.size w)
 have H : ((conf_Task_106.f k l0_0 l1_0).bind fun t391 => (if t391 = true then ((conf_Server_107.f k l0_1 l1_1).bind fun t392 => (if t392 = true then ((slices_Equal_int_int.f k l0_2 l1_2).bind fun t393 => (if t393 = true then (some (a0_3 == a1_3 && (a0_4 == a1_4 && (a0_5 == a1_5)))) else (some false))) else (some false))) else (some false))) = some r := h
 clear h
 replace H := Option.bind_eq_some_iff.mp H
 obtain ⟨t391, A30, H⟩ := H
 replace H : (if t391 = true then ((conf_Server_107.f k l0_1 l1_1).bind fun t392 => (if t392 = true then ((slices_Equal_int_int.f k l0_2 l1_2).bind fun t393 => (if t393 = true then (some (a0_3 == a1_3 && (a0_4 == a1_4 && (a0_5 == a1_5)))) else (some false))) else (some false))) else (some false)) = some r := H
 have A3 := asd A30
 clear A30
 by_cases c4 : t391 = true
 ·subst c4
  have H1 : ((conf_Server_107.f k l0_1 l1_1).bind fun t392 => (if t392 = true then ((slices_Equal_int_int.f k l0_2 l1_2).bind fun t393 => (if t393 = true then (some (a0_3 == a1_3 && (a0_4 == a1_4 && (a0_5 == a1_5)))) else (some false))) else (some false))) = some r := by rw [if_pos rfl] at H; exact H
  clear H
  have H := H1
  clear H1
  replace H := Option.bind_eq_some_iff.mp H
  obtain ⟨t392, A50, H⟩ := H
  replace H : (if t392 = true then ((slices_Equal_int_int.f k l0_2 l1_2).bind fun t393 => (if t393 = true then (some (a0_3 == a1_3 && (a0_4 == a1_4 && (a0_5 == a1_5)))) else (some false))) else (some false)) = some r := H
  have A5 := asd A50
  clear A50
  by_cases c6 : t392 = true
  ·subst c6
   have H1 : ((slices_Equal_int_int.f k l0_2 l1_2).bind fun t393 => (if t393 = true then (some (a0_3 == a1_3 && (a0_4 == a1_4 && (a0_5 == a1_5)))) else (some false))) = some r := by rw [if_pos rfl] at H; exact H
   clear H
   have H := H1
   clear H1
   replace H := Option.bind_eq_some_iff.mp H
   obtain ⟨t393, A70, H⟩ := H
   replace H : (if t393 = true then (some (a0_3 == a1_3 && (a0_4 == a1_4 && (a0_5 == a1_5)))) else (some false)) = some r := H
   have A7 := asd A70
   clear A70
   by_cases c8 : t393 = true
   ·subst c8
    have H1 : (some (a0_3 == a1_3 && (a0_4 == a1_4 && (a0_5 == a1_5)))) = some r := by rw [if_pos rfl] at H; exact H
    clear H
    have H := H1
    clear H1
    obtain rfl := Option.some.inj H
    go_enter Try.func63, Try.ntmps63
    go_wp2_with (first | ((with_reducible refine gate_dst (N := 2) rfl ?_); refine box_event ?hg (N := 2) ?hd (cs := #[.slice A0_0 l0_0.length c0_0, .slice A0_1 l0_1.length c0_1, .slice A0_2 l0_2.length c0_2, .int .u8 a0_3, .int .u8 a0_4, .int .u8 a0_5]) (t := 49) ?hr ?_; (case hd => rfl); (case hg => rfl); (case hr => first | (go_simp; done) | (go_simp; rfl)); intro gb389 hg w9 hbox hb; have n0_ := asd (below_step (by repeat (first | (with_reducible first | exact HB.out | apply wa | apply wn | apply wd) | exact HB.out)) hb); have n1_ := asd (hbox); have n2_ := asd ((by rw [hg]; exact (below_size (by repeat (first | (with_reducible first | exact HB.out | apply wa | apply wn | apply wd) | exact HB.out))) : w.heap.size ≤ gb389)); have n3_ := asd ((by rw [hg]; exact (below_size (by repeat (first | (with_reducible first | exact HB.out | apply wa | apply wn | apply wd) | exact HB.out))) : w.heap.size ≤ gb389)); clear HB; have HB := n0_; have BK389 := n1_; have GW389 := n2_; have GE389 := n3_; clear n0_ n1_ n2_ n3_; clear hb hbox hg) | ((with_reducible refine gate_dst (N := 3) rfl ?_); refine box_event ?hg (N := 3) ?hd (cs := #[.slice A1_0 l1_0.length c1_0, .slice A1_1 l1_1.length c1_1, .slice A1_2 l1_2.length c1_2, .int .u8 a1_3, .int .u8 a1_4, .int .u8 a1_5]) (t := 49) ?hr ?_; (case hd => rfl); (case hg => rfl); (case hr => first | (go_simp; done) | (go_simp; rfl)); intro gb390 hg w10 hbox hb; have n0_ := asd (blk_below (g := gb389) (o := .cells #[.slice A0_0 l0_0.length c0_0, .slice A0_1 l0_1.length c0_1, .slice A0_2 l0_2.length c0_2, .int .u8 a0_3, .int .u8 a0_4, .int .u8 a0_5] 49 (0, 0)) (by (with_reducible repeat first | apply bn | apply bd | apply ba); exact BK389.out) hb); have n1_ := asd (below_step (by repeat (first | (with_reducible first | exact HB.out | apply wa | apply wn | apply wd | refine ws ?_ GE389.out) | exact HB.out)) hb); have n2_ := asd (hbox); have n3_ := asd ((by rw [hg]; exact (below_size (by repeat (first | (with_reducible first | exact HB.out | apply wa | apply wn | apply wd | refine ws ?_ GE389.out) | exact HB.out))) : w.heap.size ≤ gb390)); have n4_ := asd ((by rw [hg]; exact (below_size (by repeat (first | (with_reducible first | exact HB.out | apply wa | apply wn | apply wd | refine ws ?_ GE389.out) | exact HB.out))) : w.heap.size ≤ gb390)); have n5_ := asd ((by rw [hg]; exact Nat.ne_of_lt (blk_lt (g := gb389) (o := .cells #[.slice A0_0 l0_0.length c0_0, .slice A0_1 l0_1.length c0_1, .slice A0_2 l0_2.length c0_2, .int .u8 a0_3, .int .u8 a0_4, .int .u8 a0_5] 49 (0, 0)) (by (with_reducible repeat first | apply bn | apply bd | apply ba); exact BK389.out)) : gb389 ≠ gb390)); have n6_ := asd ((by rw [hg]; exact Nat.ne_of_gt (blk_lt (g := gb389) (o := .cells #[.slice A0_0 l0_0.length c0_0, .slice A0_1 l0_1.length c0_1, .slice A0_2 l0_2.length c0_2, .int .u8 a0_3, .int .u8 a0_4, .int .u8 a0_5] 49 (0, 0)) (by (with_reducible repeat first | apply bn | apply bd | apply ba); exact BK389.out)) : gb390 ≠ gb389)); clear BK389; clear HB; have BK389 := n0_; have HB := n1_; have BK390 := n2_; have GW390 := n3_; have GE390 := n4_; have NB389_390 := n5_; have NB390_389 := n6_; clear n0_ n1_ n2_ n3_ n4_ n5_ n6_; clear hb hbox hg; have hnb11 := NB389_390.out; have hnc11 := NB390_389.out; have hcz12_0 : w10.cell? ⟨gb389, 0, none⟩ = some (.slice A0_0 l0_0.length c0_0) := (blk_cell BK389.out 0).trans rfl; have hcz12_1 : w10.cell? ⟨gb389, 1, none⟩ = some (.slice A0_1 l0_1.length c0_1) := (blk_cell BK389.out 1).trans rfl; have hcz12_2 : w10.cell? ⟨gb389, 2, none⟩ = some (.slice A0_2 l0_2.length c0_2) := (blk_cell BK389.out 2).trans rfl; have hcz12_3 : w10.cell? ⟨gb389, 3, none⟩ = some (.int .u8 a0_3) := (blk_cell BK389.out 3).trans rfl; have hcz12_4 : w10.cell? ⟨gb389, 4, none⟩ = some (.int .u8 a0_4) := (blk_cell BK389.out 4).trans rfl; have hcz12_5 : w10.cell? ⟨gb389, 5, none⟩ = some (.int .u8 a0_5) := (blk_cell BK389.out 5).trans rfl; have hfz12_0 := blk_frozen BK389.out 0; have hfz12_1 := blk_frozen BK389.out 1; have hfz12_2 := blk_frozen BK389.out 2; have hfz12_3 := blk_frozen BK389.out 3; have hfz12_4 := blk_frozen BK389.out 4; have hfz12_5 := blk_frozen BK389.out 5; have hcz13_0 : w10.cell? ⟨gb390, 0, none⟩ = some (.slice A1_0 l1_0.length c1_0) := (blk_cell BK390.out 0).trans rfl; have hcz13_1 : w10.cell? ⟨gb390, 1, none⟩ = some (.slice A1_1 l1_1.length c1_1) := (blk_cell BK390.out 1).trans rfl; have hcz13_2 : w10.cell? ⟨gb390, 2, none⟩ = some (.slice A1_2 l1_2.length c1_2) := (blk_cell BK390.out 2).trans rfl; have hcz13_3 : w10.cell? ⟨gb390, 3, none⟩ = some (.int .u8 a1_3) := (blk_cell BK390.out 3).trans rfl; have hcz13_4 : w10.cell? ⟨gb390, 4, none⟩ = some (.int .u8 a1_4) := (blk_cell BK390.out 4).trans rfl; have hcz13_5 : w10.cell? ⟨gb390, 5, none⟩ = some (.int .u8 a1_5) := (blk_cell BK390.out 5).trans rfl; have hfz13_0 := blk_frozen BK390.out 0; have hfz13_1 := blk_frozen BK390.out 1; have hfz13_2 := blk_frozen BK390.out 2; have hfz13_3 := blk_frozen BK390.out 3; have hfz13_4 := blk_frozen BK390.out 4; have hfz13_5 := blk_frozen BK390.out 5) | ((with_reducible refine gate_callee (f := 106) rfl ?_); refine goesL_ (some 9) rfl rfl Try.func106 (by kernel_rfl) rfl #[.slice A0_0 l0_0.length c0_0, .slice A1_0 l1_0.length c1_0] rfl (by (try simp only [List.map_toArray, List.map_cons, List.map_nil]); first | done | rfl | (simp only [List.length_drop, List.length_take]; rfl)) ?_; (with_reducible refine (conf_Task_106.calls k _ _ l0_0 _ _ l1_0 true _ ?side1 ?side2 ?side3 ?side4 A3.out).mono ?_); (case side1 => repeat (first | exact (Kd.C_below HR0_0.out HB.out) | (with_reducible refine Kd.C_alloc ?_ _) | (with_reducible refine Kd.C_drewN ?_ _) | (with_reducible refine Kd.C_drew ?_))); (case side2 => exact HC0_0.out); (case side3 => repeat (first | exact (Kd.C_below HR1_0.out HB.out) | (with_reducible refine Kd.C_alloc ?_ _) | (with_reducible refine Kd.C_drewN ?_ _) | (with_reducible refine Kd.C_drew ?_))); (case side4 => exact HC1_0.out); rintro e w' ⟨rfl, ⟨nd, rfl⟩⟩; refine ⟨_, rfl, ?_⟩) | (go_at_call 107; (with_reducible refine (conf_Server_107.calls k _ _ l0_1 _ _ l1_1 true _ ?side1 ?side2 ?side3 ?side4 A5.out).mono ?_); (case side1 => repeat (first | exact (Kd.C_below HR0_1.out (by repeat (first | (with_reducible first | exact HB.out | apply wa | apply wn | apply wd | refine ws ?_ GE389.out | refine ws ?_ GE390.out) | exact HB.out))) | (with_reducible refine Kd.C_alloc ?_ _) | (with_reducible refine Kd.C_drewN ?_ _) | (with_reducible refine Kd.C_drew ?_))); (case side2 => exact HC0_1.out); (case side3 => repeat (first | exact (Kd.C_below HR1_1.out (by repeat (first | (with_reducible first | exact HB.out | apply wa | apply wn | apply wd | refine ws ?_ GE389.out | refine ws ?_ GE390.out) | exact HB.out))) | (with_reducible refine Kd.C_alloc ?_ _) | (with_reducible refine Kd.C_drewN ?_ _) | (with_reducible refine Kd.C_drew ?_))); (case side4 => exact HC1_1.out); rintro e w' ⟨rfl, ⟨nd, rfl⟩⟩) | (go_at_call 108; (with_reducible refine (slices_Equal_int_int.calls k _ _ l0_2 _ _ l1_2 true _ ?side1 ?side2 ?side3 ?side4 A7.out).mono ?_); (case side1 => repeat (first | exact (Kd.C_below HR0_2.out (by repeat (first | (with_reducible first | exact HB.out | apply wa | apply wn | apply wd | refine ws ?_ GE389.out | refine ws ?_ GE390.out) | exact HB.out))) | (with_reducible refine Kd.C_alloc ?_ _) | (with_reducible refine Kd.C_drewN ?_ _) | (with_reducible refine Kd.C_drew ?_))); (case side2 => exact HC0_2.out); (case side3 => repeat (first | exact (Kd.C_below HR1_2.out (by repeat (first | (with_reducible first | exact HB.out | apply wa | apply wn | apply wd | refine ws ?_ GE389.out | refine ws ?_ GE390.out) | exact HB.out))) | (with_reducible refine Kd.C_alloc ?_ _) | (with_reducible refine Kd.C_drewN ?_ _) | (with_reducible refine Kd.C_drew ?_))); (case side4 => exact HC1_2.out); rintro e w' ⟨rfl, ⟨nd, rfl⟩⟩))
    go_ret
    exact ⟨by first | rfl | (simp [*] <;> rfl), by repeat (first | (with_reducible first | exact HB.out | apply wa | apply wn | apply wd | refine ws ?_ GE389.out | refine ws ?_ GE390.out) | exact HB.out)⟩
   ·replace c8 := Bool.eq_false_iff.mpr c8
    subst c8
    have H1 : (some false) = some r := by rw [if_neg (show ¬ (false = true) by decide)] at H; exact H
    clear H
    have H := H1
    clear H1
    obtain rfl := Option.some.inj H
    go_enter Try.func63, Try.ntmps63
    go_wp2_with (first | ((with_reducible refine gate_dst (N := 2) rfl ?_); refine box_event ?hg (N := 2) ?hd (cs := #[.slice A0_0 l0_0.length c0_0, .slice A0_1 l0_1.length c0_1, .slice A0_2 l0_2.length c0_2, .int .u8 a0_3, .int .u8 a0_4, .int .u8 a0_5]) (t := 49) ?hr ?_; (case hd => rfl); (case hg => rfl); (case hr => first | (go_simp; done) | (go_simp; rfl)); intro gb389 hg w14 hbox hb; have n0_ := asd (below_step (by repeat (first | (with_reducible first | exact HB.out | apply wa | apply wn | apply wd) | exact HB.out)) hb); have n1_ := asd (hbox); have n2_ := asd ((by rw [hg]; exact (below_size (by repeat (first | (with_reducible first | exact HB.out | apply wa | apply wn | apply wd) | exact HB.out))) : w.heap.size ≤ gb389)); have n3_ := asd ((by rw [hg]; exact (below_size (by repeat (first | (with_reducible first | exact HB.out | apply wa | apply wn | apply wd) | exact HB.out))) : w.heap.size ≤ gb389)); clear HB; have HB := n0_; have BK389 := n1_; have GW389 := n2_; have GE389 := n3_; clear n0_ n1_ n2_ n3_; clear hb hbox hg) | ((with_reducible refine gate_dst (N := 3) rfl ?_); refine box_event ?hg (N := 3) ?hd (cs := #[.slice A1_0 l1_0.length c1_0, .slice A1_1 l1_1.length c1_1, .slice A1_2 l1_2.length c1_2, .int .u8 a1_3, .int .u8 a1_4, .int .u8 a1_5]) (t := 49) ?hr ?_; (case hd => rfl); (case hg => rfl); (case hr => first | (go_simp; done) | (go_simp; rfl)); intro gb390 hg w15 hbox hb; have n0_ := asd (blk_below (g := gb389) (o := .cells #[.slice A0_0 l0_0.length c0_0, .slice A0_1 l0_1.length c0_1, .slice A0_2 l0_2.length c0_2, .int .u8 a0_3, .int .u8 a0_4, .int .u8 a0_5] 49 (0, 0)) (by (with_reducible repeat first | apply bn | apply bd | apply ba); exact BK389.out) hb); have n1_ := asd (below_step (by repeat (first | (with_reducible first | exact HB.out | apply wa | apply wn | apply wd | refine ws ?_ GE389.out) | exact HB.out)) hb); have n2_ := asd (hbox); have n3_ := asd ((by rw [hg]; exact (below_size (by repeat (first | (with_reducible first | exact HB.out | apply wa | apply wn | apply wd | refine ws ?_ GE389.out) | exact HB.out))) : w.heap.size ≤ gb390)); have n4_ := asd ((by rw [hg]; exact (below_size (by repeat (first | (with_reducible first | exact HB.out | apply wa | apply wn | apply wd | refine ws ?_ GE389.out) | exact HB.out))) : w.heap.size ≤ gb390)); have n5_ := asd ((by rw [hg]; exact Nat.ne_of_lt (blk_lt (g := gb389) (o := .cells #[.slice A0_0 l0_0.length c0_0, .slice A0_1 l0_1.length c0_1, .slice A0_2 l0_2.length c0_2, .int .u8 a0_3, .int .u8 a0_4, .int .u8 a0_5] 49 (0, 0)) (by (with_reducible repeat first | apply bn | apply bd | apply ba); exact BK389.out)) : gb389 ≠ gb390)); have n6_ := asd ((by rw [hg]; exact Nat.ne_of_gt (blk_lt (g := gb389) (o := .cells #[.slice A0_0 l0_0.length c0_0, .slice A0_1 l0_1.length c0_1, .slice A0_2 l0_2.length c0_2, .int .u8 a0_3, .int .u8 a0_4, .int .u8 a0_5] 49 (0, 0)) (by (with_reducible repeat first | apply bn | apply bd | apply ba); exact BK389.out)) : gb390 ≠ gb389)); clear BK389; clear HB; have BK389 := n0_; have HB := n1_; have BK390 := n2_; have GW390 := n3_; have GE390 := n4_; have NB389_390 := n5_; have NB390_389 := n6_; clear n0_ n1_ n2_ n3_ n4_ n5_ n6_; clear hb hbox hg; have hnb16 := NB389_390.out; have hnc16 := NB390_389.out; have hcz17_0 : w15.cell? ⟨gb389, 0, none⟩ = some (.slice A0_0 l0_0.length c0_0) := (blk_cell BK389.out 0).trans rfl; have hcz17_1 : w15.cell? ⟨gb389, 1, none⟩ = some (.slice A0_1 l0_1.length c0_1) := (blk_cell BK389.out 1).trans rfl; have hcz17_2 : w15.cell? ⟨gb389, 2, none⟩ = some (.slice A0_2 l0_2.length c0_2) := (blk_cell BK389.out 2).trans rfl; have hcz17_3 : w15.cell? ⟨gb389, 3, none⟩ = some (.int .u8 a0_3) := (blk_cell BK389.out 3).trans rfl; have hcz17_4 : w15.cell? ⟨gb389, 4, none⟩ = some (.int .u8 a0_4) := (blk_cell BK389.out 4).trans rfl; have hcz17_5 : w15.cell? ⟨gb389, 5, none⟩ = some (.int .u8 a0_5) := (blk_cell BK389.out 5).trans rfl; have hfz17_0 := blk_frozen BK389.out 0; have hfz17_1 := blk_frozen BK389.out 1; have hfz17_2 := blk_frozen BK389.out 2; have hfz17_3 := blk_frozen BK389.out 3; have hfz17_4 := blk_frozen BK389.out 4; have hfz17_5 := blk_frozen BK389.out 5; have hcz18_0 : w15.cell? ⟨gb390, 0, none⟩ = some (.slice A1_0 l1_0.length c1_0) := (blk_cell BK390.out 0).trans rfl; have hcz18_1 : w15.cell? ⟨gb390, 1, none⟩ = some (.slice A1_1 l1_1.length c1_1) := (blk_cell BK390.out 1).trans rfl; have hcz18_2 : w15.cell? ⟨gb390, 2, none⟩ = some (.slice A1_2 l1_2.length c1_2) := (blk_cell BK390.out 2).trans rfl; have hcz18_3 : w15.cell? ⟨gb390, 3, none⟩ = some (.int .u8 a1_3) := (blk_cell BK390.out 3).trans rfl; have hcz18_4 : w15.cell? ⟨gb390, 4, none⟩ = some (.int .u8 a1_4) := (blk_cell BK390.out 4).trans rfl; have hcz18_5 : w15.cell? ⟨gb390, 5, none⟩ = some (.int .u8 a1_5) := (blk_cell BK390.out 5).trans rfl; have hfz18_0 := blk_frozen BK390.out 0; have hfz18_1 := blk_frozen BK390.out 1; have hfz18_2 := blk_frozen BK390.out 2; have hfz18_3 := blk_frozen BK390.out 3; have hfz18_4 := blk_frozen BK390.out 4; have hfz18_5 := blk_frozen BK390.out 5) | ((with_reducible refine gate_callee (f := 106) rfl ?_); refine goesL_ (some 9) rfl rfl Try.func106 (by kernel_rfl) rfl #[.slice A0_0 l0_0.length c0_0, .slice A1_0 l1_0.length c1_0] rfl (by (try simp only [List.map_toArray, List.map_cons, List.map_nil]); first | done | rfl | (simp only [List.length_drop, List.length_take]; rfl)) ?_; (with_reducible refine (conf_Task_106.calls k _ _ l0_0 _ _ l1_0 true _ ?side1 ?side2 ?side3 ?side4 A3.out).mono ?_); (case side1 => repeat (first | exact (Kd.C_below HR0_0.out HB.out) | (with_reducible refine Kd.C_alloc ?_ _) | (with_reducible refine Kd.C_drewN ?_ _) | (with_reducible refine Kd.C_drew ?_))); (case side2 => exact HC0_0.out); (case side3 => repeat (first | exact (Kd.C_below HR1_0.out HB.out) | (with_reducible refine Kd.C_alloc ?_ _) | (with_reducible refine Kd.C_drewN ?_ _) | (with_reducible refine Kd.C_drew ?_))); (case side4 => exact HC1_0.out); rintro e w' ⟨rfl, ⟨nd, rfl⟩⟩; refine ⟨_, rfl, ?_⟩) | (go_at_call 107; (with_reducible refine (conf_Server_107.calls k _ _ l0_1 _ _ l1_1 true _ ?side1 ?side2 ?side3 ?side4 A5.out).mono ?_); (case side1 => repeat (first | exact (Kd.C_below HR0_1.out (by repeat (first | (with_reducible first | exact HB.out | apply wa | apply wn | apply wd | refine ws ?_ GE389.out | refine ws ?_ GE390.out) | exact HB.out))) | (with_reducible refine Kd.C_alloc ?_ _) | (with_reducible refine Kd.C_drewN ?_ _) | (with_reducible refine Kd.C_drew ?_))); (case side2 => exact HC0_1.out); (case side3 => repeat (first | exact (Kd.C_below HR1_1.out (by repeat (first | (with_reducible first | exact HB.out | apply wa | apply wn | apply wd | refine ws ?_ GE389.out | refine ws ?_ GE390.out) | exact HB.out))) | (with_reducible refine Kd.C_alloc ?_ _) | (with_reducible refine Kd.C_drewN ?_ _) | (with_reducible refine Kd.C_drew ?_))); (case side4 => exact HC1_1.out); rintro e w' ⟨rfl, ⟨nd, rfl⟩⟩) | (go_at_call 108; (with_reducible refine (slices_Equal_int_int.calls k _ _ l0_2 _ _ l1_2 false _ ?side1 ?side2 ?side3 ?side4 A7.out).mono ?_); (case side1 => repeat (first | exact (Kd.C_below HR0_2.out (by repeat (first | (with_reducible first | exact HB.out | apply wa | apply wn | apply wd | refine ws ?_ GE389.out | refine ws ?_ GE390.out) | exact HB.out))) | (with_reducible refine Kd.C_alloc ?_ _) | (with_reducible refine Kd.C_drewN ?_ _) | (with_reducible refine Kd.C_drew ?_))); (case side2 => exact HC0_2.out); (case side3 => repeat (first | exact (Kd.C_below HR1_2.out (by repeat (first | (with_reducible first | exact HB.out | apply wa | apply wn | apply wd | refine ws ?_ GE389.out | refine ws ?_ GE390.out) | exact HB.out))) | (with_reducible refine Kd.C_alloc ?_ _) | (with_reducible refine Kd.C_drewN ?_ _) | (with_reducible refine Kd.C_drew ?_))); (case side4 => exact HC1_2.out); rintro e w' ⟨rfl, ⟨nd, rfl⟩⟩))
    go_ret
    exact ⟨by first | rfl | (simp [*] <;> rfl), by repeat (first | (with_reducible first | exact HB.out | apply wa | apply wn | apply wd | refine ws ?_ GE389.out | refine ws ?_ GE390.out) | exact HB.out)⟩
  ·replace c6 := Bool.eq_false_iff.mpr c6
   subst c6
   have H1 : (some false) = some r := by rw [if_neg (show ¬ (false = true) by decide)] at H; exact H
   clear H
   have H := H1
   clear H1
   obtain rfl := Option.some.inj H
   go_enter Try.func63, Try.ntmps63
   go_wp2_with (first | ((with_reducible refine gate_dst (N := 2) rfl ?_); refine box_event ?hg (N := 2) ?hd (cs := #[.slice A0_0 l0_0.length c0_0, .slice A0_1 l0_1.length c0_1, .slice A0_2 l0_2.length c0_2, .int .u8 a0_3, .int .u8 a0_4, .int .u8 a0_5]) (t := 49) ?hr ?_; (case hd => rfl); (case hg => rfl); (case hr => first | (go_simp; done) | (go_simp; rfl)); intro gb389 hg w19 hbox hb; have n0_ := asd (below_step (by repeat (first | (with_reducible first | exact HB.out | apply wa | apply wn | apply wd) | exact HB.out)) hb); have n1_ := asd (hbox); have n2_ := asd ((by rw [hg]; exact (below_size (by repeat (first | (with_reducible first | exact HB.out | apply wa | apply wn | apply wd) | exact HB.out))) : w.heap.size ≤ gb389)); have n3_ := asd ((by rw [hg]; exact (below_size (by repeat (first | (with_reducible first | exact HB.out | apply wa | apply wn | apply wd) | exact HB.out))) : w.heap.size ≤ gb389)); clear HB; have HB := n0_; have BK389 := n1_; have GW389 := n2_; have GE389 := n3_; clear n0_ n1_ n2_ n3_; clear hb hbox hg) | ((with_reducible refine gate_dst (N := 3) rfl ?_); refine box_event ?hg (N := 3) ?hd (cs := #[.slice A1_0 l1_0.length c1_0, .slice A1_1 l1_1.length c1_1, .slice A1_2 l1_2.length c1_2, .int .u8 a1_3, .int .u8 a1_4, .int .u8 a1_5]) (t := 49) ?hr ?_; (case hd => rfl); (case hg => rfl); (case hr => first | (go_simp; done) | (go_simp; rfl)); intro gb390 hg w20 hbox hb; have n0_ := asd (blk_below (g := gb389) (o := .cells #[.slice A0_0 l0_0.length c0_0, .slice A0_1 l0_1.length c0_1, .slice A0_2 l0_2.length c0_2, .int .u8 a0_3, .int .u8 a0_4, .int .u8 a0_5] 49 (0, 0)) (by (with_reducible repeat first | apply bn | apply bd | apply ba); exact BK389.out) hb); have n1_ := asd (below_step (by repeat (first | (with_reducible first | exact HB.out | apply wa | apply wn | apply wd | refine ws ?_ GE389.out) | exact HB.out)) hb); have n2_ := asd (hbox); have n3_ := asd ((by rw [hg]; exact (below_size (by repeat (first | (with_reducible first | exact HB.out | apply wa | apply wn | apply wd | refine ws ?_ GE389.out) | exact HB.out))) : w.heap.size ≤ gb390)); have n4_ := asd ((by rw [hg]; exact (below_size (by repeat (first | (with_reducible first | exact HB.out | apply wa | apply wn | apply wd | refine ws ?_ GE389.out) | exact HB.out))) : w.heap.size ≤ gb390)); have n5_ := asd ((by rw [hg]; exact Nat.ne_of_lt (blk_lt (g := gb389) (o := .cells #[.slice A0_0 l0_0.length c0_0, .slice A0_1 l0_1.length c0_1, .slice A0_2 l0_2.length c0_2, .int .u8 a0_3, .int .u8 a0_4, .int .u8 a0_5] 49 (0, 0)) (by (with_reducible repeat first | apply bn | apply bd | apply ba); exact BK389.out)) : gb389 ≠ gb390)); have n6_ := asd ((by rw [hg]; exact Nat.ne_of_gt (blk_lt (g := gb389) (o := .cells #[.slice A0_0 l0_0.length c0_0, .slice A0_1 l0_1.length c0_1, .slice A0_2 l0_2.length c0_2, .int .u8 a0_3, .int .u8 a0_4, .int .u8 a0_5] 49 (0, 0)) (by (with_reducible repeat first | apply bn | apply bd | apply ba); exact BK389.out)) : gb390 ≠ gb389)); clear BK389; clear HB; have BK389 := n0_; have HB := n1_; have BK390 := n2_; have GW390 := n3_; have GE390 := n4_; have NB389_390 := n5_; have NB390_389 := n6_; clear n0_ n1_ n2_ n3_ n4_ n5_ n6_; clear hb hbox hg; have hnb21 := NB389_390.out; have hnc21 := NB390_389.out; have hcz22_0 : w20.cell? ⟨gb389, 0, none⟩ = some (.slice A0_0 l0_0.length c0_0) := (blk_cell BK389.out 0).trans rfl; have hcz22_1 : w20.cell? ⟨gb389, 1, none⟩ = some (.slice A0_1 l0_1.length c0_1) := (blk_cell BK389.out 1).trans rfl; have hcz22_2 : w20.cell? ⟨gb389, 2, none⟩ = some (.slice A0_2 l0_2.length c0_2) := (blk_cell BK389.out 2).trans rfl; have hcz22_3 : w20.cell? ⟨gb389, 3, none⟩ = some (.int .u8 a0_3) := (blk_cell BK389.out 3).trans rfl; have hcz22_4 : w20.cell? ⟨gb389, 4, none⟩ = some (.int .u8 a0_4) := (blk_cell BK389.out 4).trans rfl; have hcz22_5 : w20.cell? ⟨gb389, 5, none⟩ = some (.int .u8 a0_5) := (blk_cell BK389.out 5).trans rfl; have hfz22_0 := blk_frozen BK389.out 0; have hfz22_1 := blk_frozen BK389.out 1; have hfz22_2 := blk_frozen BK389.out 2; have hfz22_3 := blk_frozen BK389.out 3; have hfz22_4 := blk_frozen BK389.out 4; have hfz22_5 := blk_frozen BK389.out 5; have hcz23_0 : w20.cell? ⟨gb390, 0, none⟩ = some (.slice A1_0 l1_0.length c1_0) := (blk_cell BK390.out 0).trans rfl; have hcz23_1 : w20.cell? ⟨gb390, 1, none⟩ = some (.slice A1_1 l1_1.length c1_1) := (blk_cell BK390.out 1).trans rfl; have hcz23_2 : w20.cell? ⟨gb390, 2, none⟩ = some (.slice A1_2 l1_2.length c1_2) := (blk_cell BK390.out 2).trans rfl; have hcz23_3 : w20.cell? ⟨gb390, 3, none⟩ = some (.int .u8 a1_3) := (blk_cell BK390.out 3).trans rfl; have hcz23_4 : w20.cell? ⟨gb390, 4, none⟩ = some (.int .u8 a1_4) := (blk_cell BK390.out 4).trans rfl; have hcz23_5 : w20.cell? ⟨gb390, 5, none⟩ = some (.int .u8 a1_5) := (blk_cell BK390.out 5).trans rfl; have hfz23_0 := blk_frozen BK390.out 0; have hfz23_1 := blk_frozen BK390.out 1; have hfz23_2 := blk_frozen BK390.out 2; have hfz23_3 := blk_frozen BK390.out 3; have hfz23_4 := blk_frozen BK390.out 4; have hfz23_5 := blk_frozen BK390.out 5) | ((with_reducible refine gate_callee (f := 106) rfl ?_); refine goesL_ (some 9) rfl rfl Try.func106 (by kernel_rfl) rfl #[.slice A0_0 l0_0.length c0_0, .slice A1_0 l1_0.length c1_0] rfl (by (try simp only [List.map_toArray, List.map_cons, List.map_nil]); first | done | rfl | (simp only [List.length_drop, List.length_take]; rfl)) ?_; (with_reducible refine (conf_Task_106.calls k _ _ l0_0 _ _ l1_0 true _ ?side1 ?side2 ?side3 ?side4 A3.out).mono ?_); (case side1 => repeat (first | exact (Kd.C_below HR0_0.out HB.out) | (with_reducible refine Kd.C_alloc ?_ _) | (with_reducible refine Kd.C_drewN ?_ _) | (with_reducible refine Kd.C_drew ?_))); (case side2 => exact HC0_0.out); (case side3 => repeat (first | exact (Kd.C_below HR1_0.out HB.out) | (with_reducible refine Kd.C_alloc ?_ _) | (with_reducible refine Kd.C_drewN ?_ _) | (with_reducible refine Kd.C_drew ?_))); (case side4 => exact HC1_0.out); rintro e w' ⟨rfl, ⟨nd, rfl⟩⟩; refine ⟨_, rfl, ?_⟩) | (go_at_call 107; (with_reducible refine (conf_Server_107.calls k _ _ l0_1 _ _ l1_1 false _ ?side1 ?side2 ?side3 ?side4 A5.out).mono ?_); (case side1 => repeat (first | exact (Kd.C_below HR0_1.out (by repeat (first | (with_reducible first | exact HB.out | apply wa | apply wn | apply wd | refine ws ?_ GE389.out | refine ws ?_ GE390.out) | exact HB.out))) | (with_reducible refine Kd.C_alloc ?_ _) | (with_reducible refine Kd.C_drewN ?_ _) | (with_reducible refine Kd.C_drew ?_))); (case side2 => exact HC0_1.out); (case side3 => repeat (first | exact (Kd.C_below HR1_1.out (by repeat (first | (with_reducible first | exact HB.out | apply wa | apply wn | apply wd | refine ws ?_ GE389.out | refine ws ?_ GE390.out) | exact HB.out))) | (with_reducible refine Kd.C_alloc ?_ _) | (with_reducible refine Kd.C_drewN ?_ _) | (with_reducible refine Kd.C_drew ?_))); (case side4 => exact HC1_1.out); rintro e w' ⟨rfl, ⟨nd, rfl⟩⟩))
   go_ret
   exact ⟨by first | rfl | (simp [*] <;> rfl), by repeat (first | (with_reducible first | exact HB.out | apply wa | apply wn | apply wd | refine ws ?_ GE389.out | refine ws ?_ GE390.out) | exact HB.out)⟩
 ·replace c4 := Bool.eq_false_iff.mpr c4
  subst c4
  have H1 : (some false) = some r := by rw [if_neg (show ¬ (false = true) by decide)] at H; exact H
  clear H
  have H := H1
  clear H1
  obtain rfl := Option.some.inj H
  go_enter Try.func63, Try.ntmps63
  go_wp2_with (first | ((with_reducible refine gate_dst (N := 2) rfl ?_); refine box_event ?hg (N := 2) ?hd (cs := #[.slice A0_0 l0_0.length c0_0, .slice A0_1 l0_1.length c0_1, .slice A0_2 l0_2.length c0_2, .int .u8 a0_3, .int .u8 a0_4, .int .u8 a0_5]) (t := 49) ?hr ?_; (case hd => rfl); (case hg => rfl); (case hr => first | (go_simp; done) | (go_simp; rfl)); intro gb389 hg w24 hbox hb; have n0_ := asd (below_step (by repeat (first | (with_reducible first | exact HB.out | apply wa | apply wn | apply wd) | exact HB.out)) hb); have n1_ := asd (hbox); have n2_ := asd ((by rw [hg]; exact (below_size (by repeat (first | (with_reducible first | exact HB.out | apply wa | apply wn | apply wd) | exact HB.out))) : w.heap.size ≤ gb389)); have n3_ := asd ((by rw [hg]; exact (below_size (by repeat (first | (with_reducible first | exact HB.out | apply wa | apply wn | apply wd) | exact HB.out))) : w.heap.size ≤ gb389)); clear HB; have HB := n0_; have BK389 := n1_; have GW389 := n2_; have GE389 := n3_; clear n0_ n1_ n2_ n3_; clear hb hbox hg) | ((with_reducible refine gate_dst (N := 3) rfl ?_); refine box_event ?hg (N := 3) ?hd (cs := #[.slice A1_0 l1_0.length c1_0, .slice A1_1 l1_1.length c1_1, .slice A1_2 l1_2.length c1_2, .int .u8 a1_3, .int .u8 a1_4, .int .u8 a1_5]) (t := 49) ?hr ?_; (case hd => rfl); (case hg => rfl); (case hr => first | (go_simp; done) | (go_simp; rfl)); intro gb390 hg w25 hbox hb; have n0_ := asd (blk_below (g := gb389) (o := .cells #[.slice A0_0 l0_0.length c0_0, .slice A0_1 l0_1.length c0_1, .slice A0_2 l0_2.length c0_2, .int .u8 a0_3, .int .u8 a0_4, .int .u8 a0_5] 49 (0, 0)) (by (with_reducible repeat first | apply bn | apply bd | apply ba); exact BK389.out) hb); have n1_ := asd (below_step (by repeat (first | (with_reducible first | exact HB.out | apply wa | apply wn | apply wd | refine ws ?_ GE389.out) | exact HB.out)) hb); have n2_ := asd (hbox); have n3_ := asd ((by rw [hg]; exact (below_size (by repeat (first | (with_reducible first | exact HB.out | apply wa | apply wn | apply wd | refine ws ?_ GE389.out) | exact HB.out))) : w.heap.size ≤ gb390)); have n4_ := asd ((by rw [hg]; exact (below_size (by repeat (first | (with_reducible first | exact HB.out | apply wa | apply wn | apply wd | refine ws ?_ GE389.out) | exact HB.out))) : w.heap.size ≤ gb390)); have n5_ := asd ((by rw [hg]; exact Nat.ne_of_lt (blk_lt (g := gb389) (o := .cells #[.slice A0_0 l0_0.length c0_0, .slice A0_1 l0_1.length c0_1, .slice A0_2 l0_2.length c0_2, .int .u8 a0_3, .int .u8 a0_4, .int .u8 a0_5] 49 (0, 0)) (by (with_reducible repeat first | apply bn | apply bd | apply ba); exact BK389.out)) : gb389 ≠ gb390)); have n6_ := asd ((by rw [hg]; exact Nat.ne_of_gt (blk_lt (g := gb389) (o := .cells #[.slice A0_0 l0_0.length c0_0, .slice A0_1 l0_1.length c0_1, .slice A0_2 l0_2.length c0_2, .int .u8 a0_3, .int .u8 a0_4, .int .u8 a0_5] 49 (0, 0)) (by (with_reducible repeat first | apply bn | apply bd | apply ba); exact BK389.out)) : gb390 ≠ gb389)); clear BK389; clear HB; have BK389 := n0_; have HB := n1_; have BK390 := n2_; have GW390 := n3_; have GE390 := n4_; have NB389_390 := n5_; have NB390_389 := n6_; clear n0_ n1_ n2_ n3_ n4_ n5_ n6_; clear hb hbox hg; have hnb26 := NB389_390.out; have hnc26 := NB390_389.out; have hcz27_0 : w25.cell? ⟨gb389, 0, none⟩ = some (.slice A0_0 l0_0.length c0_0) := (blk_cell BK389.out 0).trans rfl; have hcz27_1 : w25.cell? ⟨gb389, 1, none⟩ = some (.slice A0_1 l0_1.length c0_1) := (blk_cell BK389.out 1).trans rfl; have hcz27_2 : w25.cell? ⟨gb389, 2, none⟩ = some (.slice A0_2 l0_2.length c0_2) := (blk_cell BK389.out 2).trans rfl; have hcz27_3 : w25.cell? ⟨gb389, 3, none⟩ = some (.int .u8 a0_3) := (blk_cell BK389.out 3).trans rfl; have hcz27_4 : w25.cell? ⟨gb389, 4, none⟩ = some (.int .u8 a0_4) := (blk_cell BK389.out 4).trans rfl; have hcz27_5 : w25.cell? ⟨gb389, 5, none⟩ = some (.int .u8 a0_5) := (blk_cell BK389.out 5).trans rfl; have hfz27_0 := blk_frozen BK389.out 0; have hfz27_1 := blk_frozen BK389.out 1; have hfz27_2 := blk_frozen BK389.out 2; have hfz27_3 := blk_frozen BK389.out 3; have hfz27_4 := blk_frozen BK389.out 4; have hfz27_5 := blk_frozen BK389.out 5; have hcz28_0 : w25.cell? ⟨gb390, 0, none⟩ = some (.slice A1_0 l1_0.length c1_0) := (blk_cell BK390.out 0).trans rfl; have hcz28_1 : w25.cell? ⟨gb390, 1, none⟩ = some (.slice A1_1 l1_1.length c1_1) := (blk_cell BK390.out 1).trans rfl; have hcz28_2 : w25.cell? ⟨gb390, 2, none⟩ = some (.slice A1_2 l1_2.length c1_2) := (blk_cell BK390.out 2).trans rfl; have hcz28_3 : w25.cell? ⟨gb390, 3, none⟩ = some (.int .u8 a1_3) := (blk_cell BK390.out 3).trans rfl; have hcz28_4 : w25.cell? ⟨gb390, 4, none⟩ = some (.int .u8 a1_4) := (blk_cell BK390.out 4).trans rfl; have hcz28_5 : w25.cell? ⟨gb390, 5, none⟩ = some (.int .u8 a1_5) := (blk_cell BK390.out 5).trans rfl; have hfz28_0 := blk_frozen BK390.out 0; have hfz28_1 := blk_frozen BK390.out 1; have hfz28_2 := blk_frozen BK390.out 2; have hfz28_3 := blk_frozen BK390.out 3; have hfz28_4 := blk_frozen BK390.out 4; have hfz28_5 := blk_frozen BK390.out 5) | ((with_reducible refine gate_callee (f := 106) rfl ?_); refine goesL_ (some 9) rfl rfl Try.func106 (by kernel_rfl) rfl #[.slice A0_0 l0_0.length c0_0, .slice A1_0 l1_0.length c1_0] rfl (by (try simp only [List.map_toArray, List.map_cons, List.map_nil]); first | done | rfl | (simp only [List.length_drop, List.length_take]; rfl)) ?_; (with_reducible refine (conf_Task_106.calls k _ _ l0_0 _ _ l1_0 false _ ?side1 ?side2 ?side3 ?side4 A3.out).mono ?_); (case side1 => repeat (first | exact (Kd.C_below HR0_0.out HB.out) | (with_reducible refine Kd.C_alloc ?_ _) | (with_reducible refine Kd.C_drewN ?_ _) | (with_reducible refine Kd.C_drew ?_))); (case side2 => exact HC0_0.out); (case side3 => repeat (first | exact (Kd.C_below HR1_0.out HB.out) | (with_reducible refine Kd.C_alloc ?_ _) | (with_reducible refine Kd.C_drewN ?_ _) | (with_reducible refine Kd.C_drew ?_))); (case side4 => exact HC1_0.out); rintro e w' ⟨rfl, ⟨nd, rfl⟩⟩; refine ⟨_, rfl, ?_⟩))
  go_ret
  exact ⟨by first | rfl | (simp [*] <;> rfl), by repeat (first | (with_reducible first | exact HB.out | apply wa | apply wn | apply wd | refine ws ?_ GE389.out | refine ws ?_ GE390.out) | exact HB.out)⟩
end Go.Proofs.Ytmjhnmdmopmfjaa.Fn
