/- Part of the proof of ConfApart: see the last text. (Words laid by the print, as far as they are named here; walks written by a program of this project; plain laws.) -/
import Derived.Test.YtmjhnmdmopmfjaaConfApartZ4
namespace Go.Proofs.Ytmjhnmdmopmfjaa.Fn
open Go.RowKit Go.Proofs.YtmjhnmdmopmfjaaW.PrintWords Go.Proofs.YtmjhnmdmopmfjaaW.PrintLast Go.Proofs.YtmjhnmdmopmfjaaW.PrintMore
attribute [local go_sem] max2_int min2_int max_two min_two max_three min_three max_four min_four
set_option linter.unusedVariables false
set_option linter.unusedSimpArgs false
mutual
def parcloselaw03_Ref.l0 : Nat → Int → Int → Int → List (S42) → List (S49) → List (S44) → Int → Int → List (S77) → Option (Int × Int × (List (S77)) × (List (S61)) × (List (S78)))
 | 0, _, _, _, _, _, _, _, _, _ => none
 | k + 1, x4, x260000, x260001, x260002, x260003, x260004, x262000, x262001, x262002 => if x4 < (x260002.length : Int) then (if 0 ≤ x4 then (if x262002.length < 5864062014805 then (parcloselaw03_Ref.l0 k (wrap64 (x4 + 1)) x260000 x260001 x260002 x260003 x260004 x262000 x262001 (x262002 ++ [(⟨(rd_T42 x260002 x4).f0, (rd_T42 x260002 x4).f1, (rd_T42 x260002 x4).f2⟩ : S77)])) else (none)) else (none)) else (parcloselaw03_Ref.l1 k 0 x260000 x260001 x260002 x260003 x260004 x262000 x262001 x262002 ([] : List (S61)))
def parcloselaw03_Ref.l1 : Nat → Int → Int → Int → List (S42) → List (S49) → List (S44) → Int → Int → List (S77) → List (S61) → Option (Int × Int × (List (S77)) × (List (S61)) × (List (S78)))
 | 0, _, _, _, _, _, _, _, _, _, _ => none
 | k + 1, x5, x260000, x260001, x260002, x260003, x260004, x262000, x262001, x262002, x262003 => if x5 < (x260003.length : Int) then (if 0 ≤ x5 then ((parcloselaw03_RefPart.f k ((rd_T49 x260003 x5).f0) ((rd_T49 x260003 x5).f1) ((rd_T49 x260003 x5).f2) ((rd_T49 x260003 x5).f3.f0) ((rd_T49 x260003 x5).f3.f1) ((rd_T49 x260003 x5).f3.f2)).bind fun bt267 => (if x262003.length < 1759218604441 then (parcloselaw03_Ref.l1 k (wrap64 (x5 + 1)) x260000 x260001 x260002 x260003 x260004 x262000 x262001 x262002 (x262003 ++ [(⟨bt267.1, bt267.2.1, bt267.2.2.1, (⟨bt267.2.2.2.1, bt267.2.2.2.2.1, bt267.2.2.2.2.2⟩ : S47)⟩ : S61)])) else (none))) else (none)) else (parcloselaw03_Ref.l2 k 0 x260000 x260001 x260002 x260003 x260004 x262000 x262001 x262002 x262003 ([] : List (S78)))
def parcloselaw03_Ref.l2 : Nat → Int → Int → Int → List (S42) → List (S49) → List (S44) → Int → Int → List (S77) → List (S61) → List (S78) → Option (Int × Int × (List (S77)) × (List (S61)) × (List (S78)))
 | 0, _, _, _, _, _, _, _, _, _, _, _ => none
 | k + 1, x6, x260000, x260001, x260002, x260003, x260004, x262000, x262001, x262002, x262003, x262004 => if x6 < (x260004.length : Int) then (if 0 ≤ x6 then (if x262004.length < 4398046511104 then (parcloselaw03_Ref.l2 k (wrap64 (x6 + 1)) x260000 x260001 x260002 x260003 x260004 x262000 x262001 x262002 x262003 (x262004 ++ [(⟨(rd_T44 x260004 x6).f0, (rd_T44 x260004 x6).f1, (rd_T44 x260004 x6).f2, (rd_T44 x260004 x6).f3⟩ : S78)])) else (none)) else (none)) else (some (x262000, x262001, x262002, x262003, x262004))
end
def parcloselaw03_Ref.f (k : Nat) (a0_0 : Int) (a0_1 : Int) (l0_2 : List (S42)) (l0_3 : List (S49)) (l0_4 : List (S44)) : Option (Int × Int × (List (S77)) × (List (S61)) × (List (S78))) := parcloselaw03_Ref.l0 k 0 a0_0 a0_1 l0_2 l0_3 l0_4 a0_0 a0_1 ([] : List (S77))
def parcloselaw03_Ref.T5 : Bool × List (List Nat × List Nat) := (true, [([], []), ([0], [0]), ([], []), ([2], [2]), ([], []), ([3, 4], [3, 4]), ([5], [5]), ([6], [6]), ([1, 7], [1, 7]), ([0, 1, 2, 3, 4, 5, 6, 7, 8], []), ([9, 8, 8, 0, 1, 2, 3, 4, 5, 6, 7, 8], [8, 9])])
def parcloselaw03_Ref.B5 : List Nat := [0, 1, 0, 4, 0, 28, 60, 124, 255, 511, 1023]
theorem parcloselaw03_Ref.tab5 : rtab .any (opsOf Try.f24 5) = parcloselaw03_Ref.T5 := by kernel_rfl
theorem parcloselaw03_Ref.bits5 : waitsOk parcloselaw03_Ref.T5.2 parcloselaw03_Ref.B5 = true := by kernel_rfl
def parcloselaw03_Ref.T9 : Bool × List (List Nat × List Nat) := (true, [([], []), ([0], [0]), ([], []), ([2], [2]), ([], []), ([3, 4], [3, 4]), ([5], [5]), ([6], [6]), ([7], [7]), ([1, 8, 7], [1, 8]), ([0, 1, 2, 3, 4, 5, 6, 7, 8, 9], []), ([10, 9, 9, 0, 1, 2, 3, 4, 5, 6, 7, 8, 9], [9, 10])])
def parcloselaw03_Ref.B9 : List Nat := [0, 1, 0, 4, 0, 28, 60, 124, 252, 511, 1023, 2047]
theorem parcloselaw03_Ref.tab9 : rtab .any (opsOf Try.f24 9) = parcloselaw03_Ref.T9 := by kernel_rfl
theorem parcloselaw03_Ref.bits9 : waitsOk parcloselaw03_Ref.T9.2 parcloselaw03_Ref.B9 = true := by kernel_rfl
def parcloselaw03_Ref.T13 : Bool × List (List Nat × List Nat) := (true, [([], []), ([0], [0]), ([], []), ([2], [2]), ([], []), ([3, 4], [3, 4]), ([5], [5]), ([6], [6]), ([1, 7], [1, 7]), ([0, 1, 2, 3, 4, 5, 6, 7, 8], []), ([9, 8, 8, 0, 1, 2, 3, 4, 5, 6, 7, 8], [8, 9])])
def parcloselaw03_Ref.B13 : List Nat := [0, 1, 0, 4, 0, 28, 60, 124, 255, 511, 1023]
theorem parcloselaw03_Ref.tab13 : rtab .any (opsOf Try.f24 13) = parcloselaw03_Ref.T13 := by kernel_rfl
theorem parcloselaw03_Ref.bits13 : waitsOk parcloselaw03_Ref.T13.2 parcloselaw03_Ref.B13 = true := by kernel_rfl
set_option maxHeartbeats 8000000 in
set_option maxRecDepth 100000 in
theorem parcloselaw03_Ref.calls (k : Nat) (a0_0 : Int) (a0_1 : Int) (A0_2 : Option Addr) (c0_2 : Nat) (l0_2 : List (S42)) (A0_3 : Option Addr) (c0_3 : Nat) (l0_3 : List (S49)) (A0_4 : Option Addr) (c0_4 : Nat) (l0_4 : List (S44)) (r1 : Int) (r2 : Int) (r3 : List (S77)) (r4 : List (S61)) (r5 : List (S78)) (w : World) (hr0_2 : Kd.C k42 w A0_2 l0_2.length l0_2) (hc0_2 : l0_2.length ≤ c0_2) (hr0_3 : Kd.C k49 w A0_3 l0_3.length l0_3) (hc0_3 : l0_3.length ≤ c0_3) (hr0_4 : Kd.C k44 w A0_4 l0_4.length l0_4) (hc0_4 : l0_4.length ≤ c0_4) (h : parcloselaw03_Ref.f k a0_0 a0_1 l0_2 l0_3 l0_4 = some (r1, r2, r3, r4, r5)) :
  Calls Try.prog 24 #[.agg #[.int .i64 a0_0, .int .i64 a0_1, .slice A0_2 l0_2.length c0_2, .slice A0_3 l0_3.length c0_3, .slice A0_4 l0_4.length c0_4]] w fun e w' => ∃ v2_ v3_ v4_ : Value, e = .returned (.agg #[.int .i64 r1, .int .i64 r2, v2_, v3_, v4_]) ∧ Kd.R k77 77 w' w.heap.size (fun _ => True) v2_ r3 ∧ Kd.S k61 61 w' w.heap.size (fun _ => True) v3_ r4 ∧ Kd.R k78 78 w' w.heap.size (fun _ => True) v4_ r5 ∧ Below w.heap.size w w' := by
 have hu34 := Try.underlying34
 have hu26 := Try.underlying26
 have hu42 := Try.underlying42
 have hu49 := Try.underlying49
 have hu44 := Try.underlying44
 have HR0_2 := asd hr0_2
 have HC0_2 := asd hc0_2
 clear hr0_2 hc0_2
 have HR0_3 := asd hr0_3
 have HC0_3 := asd hc0_3
 clear hr0_3 hc0_3
 have HR0_4 := asd hr0_4
 have HC0_4 := asd hc0_4
 clear hr0_4 hc0_4
 have HB := asd (Below.refl w.heap.size w)
 have H : (parcloselaw03_Ref.l0 k 0 a0_0 a0_1 l0_2 l0_3 l0_4 a0_0 a0_1 ([] : List (S77))) = some (r1, r2, r3, r4, r5) := h
 clear h
 have H' := asd H
 clear H
 go_enter Try.func24, Try.ntmps24
 go_wp2_with (first | ((with_reducible refine gate_dst (N := 1) rfl ?_); refine box_event ?hg (N := 1) ?hd (cs := #[.int .i64 a0_0, .int .i64 a0_1, .slice A0_2 l0_2.length c0_2, .slice A0_3 l0_3.length c0_3, .slice A0_4 l0_4.length c0_4]) (t := 34) ?hr ?_; (case hd => rfl); (case hg => rfl); (case hr => first | (go_simp; done) | (go_simp; rfl)); intro gb259 hg w2 hbox hb; have n0_ := asd (below_step (by repeat (first | (with_reducible first | exact HB.out | apply wa | apply wn | apply wd) | exact HB.out)) hb); have n1_ := asd (hbox); have n2_ := asd ((by rw [hg]; exact (below_size (by repeat (first | (with_reducible first | exact HB.out | apply wa | apply wn | apply wd) | exact HB.out))) : w.heap.size ≤ gb259)); have n3_ := asd ((by rw [hg]; exact (below_size (by repeat (first | (with_reducible first | exact HB.out | apply wa | apply wn | apply wd) | exact HB.out))) : w.heap.size ≤ gb259)); clear HB; have HB := n0_; have BK259 := n1_; have GW259 := n2_; have GE259 := n3_; clear n0_ n1_ n2_ n3_; clear hb hbox hg) | ((with_reducible refine gate_dst (N := 2) rfl ?_); refine box_event ?hg (N := 2) ?hd (cs := #[.int .i64 0, .int .i64 0, .slice none 0 0, .slice none 0 0, .slice none 0 0]) (t := 26) ?hr ?_; (case hd => rfl); (case hg => rfl); (case hr => first | (go_simp; done) | (go_simp; rfl)); intro gb260 hg w3 hbox hb; have n0_ := asd (blk_below (g := gb259) (o := .cells #[.int .i64 a0_0, .int .i64 a0_1, .slice A0_2 l0_2.length c0_2, .slice A0_3 l0_3.length c0_3, .slice A0_4 l0_4.length c0_4] 34 (0, 0)) (by (with_reducible repeat first | apply bn | apply bd | apply ba); exact BK259.out) hb); have n1_ := asd (below_step (by repeat (first | (with_reducible first | exact HB.out | apply wa | apply wn | apply wd | refine ws ?_ GE259.out) | exact HB.out)) hb); have n2_ := asd (hbox); have n3_ := asd ((by rw [hg]; exact (below_size (by repeat (first | (with_reducible first | exact HB.out | apply wa | apply wn | apply wd | refine ws ?_ GE259.out) | exact HB.out))) : w.heap.size ≤ gb260)); have n4_ := asd ((by rw [hg]; exact (below_size (by repeat (first | (with_reducible first | exact HB.out | apply wa | apply wn | apply wd | refine ws ?_ GE259.out) | exact HB.out))) : w.heap.size ≤ gb260)); have n5_ := asd ((by rw [hg]; exact Nat.ne_of_lt (blk_lt (g := gb259) (o := .cells #[.int .i64 a0_0, .int .i64 a0_1, .slice A0_2 l0_2.length c0_2, .slice A0_3 l0_3.length c0_3, .slice A0_4 l0_4.length c0_4] 34 (0, 0)) (by (with_reducible repeat first | apply bn | apply bd | apply ba); exact BK259.out)) : gb259 ≠ gb260)); have n6_ := asd ((by rw [hg]; exact Nat.ne_of_gt (blk_lt (g := gb259) (o := .cells #[.int .i64 a0_0, .int .i64 a0_1, .slice A0_2 l0_2.length c0_2, .slice A0_3 l0_3.length c0_3, .slice A0_4 l0_4.length c0_4] 34 (0, 0)) (by (with_reducible repeat first | apply bn | apply bd | apply ba); exact BK259.out)) : gb260 ≠ gb259)); clear BK259; clear HB; have BK259 := n0_; have HB := n1_; have BK260 := n2_; have GW260 := n3_; have GE260 := n4_; have NB259_260 := n5_; have NB260_259 := n6_; clear n0_ n1_ n2_ n3_ n4_ n5_ n6_; clear hb hbox hg; have hnb4 := NB259_260.out; have hnc4 := NB260_259.out; have hcz5_0 : w3.cell? ⟨gb259, 0, none⟩ = some (.int .i64 a0_0) := (blk_cell BK259.out 0).trans rfl; have hcz5_1 : w3.cell? ⟨gb259, 1, none⟩ = some (.int .i64 a0_1) := (blk_cell BK259.out 1).trans rfl; have hcz5_2 : w3.cell? ⟨gb259, 2, none⟩ = some (.slice A0_2 l0_2.length c0_2) := (blk_cell BK259.out 2).trans rfl; have hcz5_3 : w3.cell? ⟨gb259, 3, none⟩ = some (.slice A0_3 l0_3.length c0_3) := (blk_cell BK259.out 3).trans rfl; have hcz5_4 : w3.cell? ⟨gb259, 4, none⟩ = some (.slice A0_4 l0_4.length c0_4) := (blk_cell BK259.out 4).trans rfl; have hfz5_0 := blk_frozen BK259.out 0; have hfz5_1 := blk_frozen BK259.out 1; have hfz5_2 := blk_frozen BK259.out 2; have hfz5_3 := blk_frozen BK259.out 3; have hfz5_4 := blk_frozen BK259.out 4) | ((with_reducible refine gate_dst (N := 3) rfl ?_); refine box_event ?hg (N := 3) ?hd (cs := #[.int .i64 0, .int .i64 0, .slice none 0 0, .slice none 0 0, .slice none 0 0]) (t := 26) ?hr ?_; (case hd => rfl); (case hg => rfl); (case hr => first | (go_simp; done) | (go_simp; rfl)); intro gb261 hg w6 hbox hb; have n0_ := asd (blk_below (g := gb259) (o := .cells #[.int .i64 a0_0, .int .i64 a0_1, .slice A0_2 l0_2.length c0_2, .slice A0_3 l0_3.length c0_3, .slice A0_4 l0_4.length c0_4] 34 (0, 0)) (by (with_reducible repeat first | apply bn | apply bd | apply ba); exact BK259.out) hb); have n1_ := asd (blk_below (g := gb260) (o := .cells #[.int .i64 0, .int .i64 0, .slice none 0 0, .slice none 0 0, .slice none 0 0] 26 (0, 0)) (by (with_reducible repeat first | apply bn | apply bd | apply ba); exact BK260.out) hb); have n2_ := asd (below_step (by repeat (first | (with_reducible first | exact HB.out | apply wa | apply wn | apply wd | refine ws ?_ GE259.out | refine ws ?_ GE260.out) | exact HB.out)) hb); have n3_ := asd (hbox); have n4_ := asd ((by rw [hg]; exact (below_size (by repeat (first | (with_reducible first | exact HB.out | apply wa | apply wn | apply wd | refine ws ?_ GE259.out | refine ws ?_ GE260.out) | exact HB.out))) : w.heap.size ≤ gb261)); have n5_ := asd ((by rw [hg]; exact (below_size (by repeat (first | (with_reducible first | exact HB.out | apply wa | apply wn | apply wd | refine ws ?_ GE259.out | refine ws ?_ GE260.out) | exact HB.out))) : w.heap.size ≤ gb261)); have n6_ := asd ((by rw [hg]; exact Nat.ne_of_lt (blk_lt (g := gb259) (o := .cells #[.int .i64 a0_0, .int .i64 a0_1, .slice A0_2 l0_2.length c0_2, .slice A0_3 l0_3.length c0_3, .slice A0_4 l0_4.length c0_4] 34 (0, 0)) (by (with_reducible repeat first | apply bn | apply bd | apply ba); exact BK259.out)) : gb259 ≠ gb261)); have n7_ := asd ((by rw [hg]; exact Nat.ne_of_gt (blk_lt (g := gb259) (o := .cells #[.int .i64 a0_0, .int .i64 a0_1, .slice A0_2 l0_2.length c0_2, .slice A0_3 l0_3.length c0_3, .slice A0_4 l0_4.length c0_4] 34 (0, 0)) (by (with_reducible repeat first | apply bn | apply bd | apply ba); exact BK259.out)) : gb261 ≠ gb259)); have n8_ := asd ((by rw [hg]; exact Nat.ne_of_lt (blk_lt (g := gb260) (o := .cells #[.int .i64 0, .int .i64 0, .slice none 0 0, .slice none 0 0, .slice none 0 0] 26 (0, 0)) (by (with_reducible repeat first | apply bn | apply bd | apply ba); exact BK260.out)) : gb260 ≠ gb261)); have n9_ := asd ((by rw [hg]; exact Nat.ne_of_gt (blk_lt (g := gb260) (o := .cells #[.int .i64 0, .int .i64 0, .slice none 0 0, .slice none 0 0, .slice none 0 0] 26 (0, 0)) (by (with_reducible repeat first | apply bn | apply bd | apply ba); exact BK260.out)) : gb261 ≠ gb260)); clear BK259; clear BK260; clear HB; have BK259 := n0_; have BK260 := n1_; have HB := n2_; have BK261 := n3_; have GW261 := n4_; have GE261 := n5_; have NB259_261 := n6_; have NB261_259 := n7_; have NB260_261 := n8_; have NB261_260 := n9_; clear n0_ n1_ n2_ n3_ n4_ n5_ n6_ n7_ n8_ n9_; clear hb hbox hg; have hnb7 := NB261_259.out; have hnc7 := NB259_261.out; have hnb8 := NB261_260.out; have hnc8 := NB260_261.out; have hcz9_0 : w6.cell? ⟨gb261, 0, none⟩ = some (.int .i64 0) := (blk_cell BK261.out 0).trans rfl; have hcz9_1 : w6.cell? ⟨gb261, 1, none⟩ = some (.int .i64 0) := (blk_cell BK261.out 1).trans rfl; have hcz9_2 : w6.cell? ⟨gb261, 2, none⟩ = some (.slice none 0 0) := (blk_cell BK261.out 2).trans rfl; have hcz9_3 : w6.cell? ⟨gb261, 3, none⟩ = some (.slice none 0 0) := (blk_cell BK261.out 3).trans rfl; have hcz9_4 : w6.cell? ⟨gb261, 4, none⟩ = some (.slice none 0 0) := (blk_cell BK261.out 4).trans rfl; have hfz9_0 := blk_frozen BK261.out 0; have hfz9_1 := blk_frozen BK261.out 1; have hfz9_2 := blk_frozen BK261.out 2; have hfz9_3 := blk_frozen BK261.out 3; have hfz9_4 := blk_frozen BK261.out 4))
 go_loopg [4] k (fun kq v4 w' => ∃ (x4_1 : Int) (x262002_1 : List (S77)) (u262002 : Value), v4 = .int .i64 x4_1 ∧ Aside0 (parcloselaw03_Ref.l0 kq x4_1 a0_0 a0_1 l0_2 l0_3 l0_4 a0_0 a0_1 x262002_1 = some (r1, r2, r3, r4, r5)) ∧ Aside0 (kq ≤ k) ∧ Aside0 (Kd.R k77 77 w' w.heap.size (fun _ => True) u262002 x262002_1) ∧ Aside0 (w'.heap[gb259]? = some (.cells #[.int .i64 a0_0, .int .i64 a0_1, (.slice A0_2 l0_2.length c0_2), (.slice A0_3 l0_3.length c0_3), (.slice A0_4 l0_4.length c0_4)] 34 (0, 0))) ∧ Aside0 (w'.heap[gb260]? = some (.cells #[.int .i64 0, .int .i64 0, (.slice none 0 0), (.slice none 0 0), (.slice none 0 0)] 26 (0, 0))) ∧ Aside0 (w'.heap[gb261]? = some (.cells #[.int .i64 a0_0, .int .i64 a0_1, u262002, (.slice none 0 0), (.slice none 0 0)] 26 (0, 0))) ∧ Aside0 (Below w.heap.size w w'))
 case atStart => exact ⟨(0), (([] : List (S77))), (.slice none 0 0), (by first | rfl | (simp; done) | (simp [*]; done)), H', ⟨Nat.le_refl _⟩, ⟨by first | exact Kd.R_nil _ _ _ _ _ | exact Kd.N_nil _ _ _ _ _ | exact Kd.V_nil _ _ _ _ _ | exact Kd.Q_nil _ _ _ _ _ | exact Kd.S_nil _ _ _ _ _⟩, ⟨by (with_reducible repeat first | apply bn | apply bd | apply ba); refine blk_far ?_ NB259_261.out _; (with_reducible repeat first | apply bn | apply bd | apply ba); refine blk_far ?_ NB259_261.out _; (with_reducible repeat first | apply bn | apply bd | apply ba); refine blk_far ?_ NB259_261.out _; (with_reducible repeat first | apply bn | apply bd | apply ba); refine blk_far ?_ NB259_261.out _; (with_reducible repeat first | apply bn | apply bd | apply ba); refine blk_far ?_ NB259_261.out _; (with_reducible repeat first | apply bn | apply bd | apply ba); exact BK259.out⟩, ⟨by (with_reducible repeat first | apply bn | apply bd | apply ba); refine blk_far ?_ NB260_261.out _; (with_reducible repeat first | apply bn | apply bd | apply ba); refine blk_far ?_ NB260_261.out _; (with_reducible repeat first | apply bn | apply bd | apply ba); refine blk_far ?_ NB260_261.out _; (with_reducible repeat first | apply bn | apply bd | apply ba); refine blk_far ?_ NB260_261.out _; (with_reducible repeat first | apply bn | apply bd | apply ba); refine blk_far ?_ NB260_261.out _; (with_reducible repeat first | apply bn | apply bd | apply ba); exact BK260.out⟩, ⟨by (with_reducible repeat first | apply bn | apply bd | apply ba); refine blk_put (cs := #[.int .i64 a0_0, .int .i64 a0_1, .slice none 0 0, .slice none 0 0, .slice none 0 0]) ?_ 4 _ rfl; (with_reducible repeat first | apply bn | apply bd | apply ba); refine blk_put (cs := #[.int .i64 a0_0, .int .i64 a0_1, .slice none 0 0, .slice none 0 0, .slice none 0 0]) ?_ 3 _ rfl; (with_reducible repeat first | apply bn | apply bd | apply ba); refine blk_put (cs := #[.int .i64 a0_0, .int .i64 a0_1, .slice none 0 0, .slice none 0 0, .slice none 0 0]) ?_ 2 _ rfl; (with_reducible repeat first | apply bn | apply bd | apply ba); refine blk_put (cs := #[.int .i64 a0_0, .int .i64 0, .slice none 0 0, .slice none 0 0, .slice none 0 0]) ?_ 1 _ rfl; (with_reducible repeat first | apply bn | apply bd | apply ba); refine blk_put (cs := #[.int .i64 0, .int .i64 0, .slice none 0 0, .slice none 0 0, .slice none 0 0]) ?_ 0 _ rfl; (with_reducible repeat first | apply bn | apply bd | apply ba); exact BK261.out⟩, ⟨by repeat (first | (with_reducible first | exact HB.out | apply wa | apply wn | apply wd | refine ws ?_ GE259.out | refine ws ?_ GE260.out | refine ws ?_ GE261.out) | exact HB.out)⟩⟩
 case round =>
  clear H'
  try clear c2
  try clear p2
  try clear c4
  try clear c7
  try clear c8
  try clear hcz5_0
  try clear hcz5_1
  try clear hcz5_2
  try clear hcz5_3
  try clear hcz5_4
  try clear hcz9_0
  try clear hcz9_1
  try clear hcz9_2
  try clear hcz9_3
  try clear hcz9_4
  try clear hfz5_0
  try clear hfz5_1
  try clear hfz5_2
  try clear hfz5_3
  try clear hfz5_4
  try clear hfz9_0
  try clear hfz9_1
  try clear hfz9_2
  try clear hfz9_3
  try clear hfz9_4
  obtain ⟨x4_1, x262002_1, u262002, rfl, HA, HK1, HO_262002, BK259, BK260, BK261, HB⟩ := hrel
  cases gk with
  | zero => exact absurd HA.out (by simp [parcloselaw03_Ref.l0])
  | succ k1 =>
   have H := HA.out
   clear HA
   simp only [parcloselaw03_Ref.l0] at H
   by_cases c10 : x4_1 < (l0_2.length : Int)
   ·rw [if_pos c10] at H
    have c10b0 : decide (x4_1 < (l0_2.length : Int)) = true := decide_eq_true c10
    clear c10
    by_cases c11 : 0 ≤ x4_1
    ·rw [if_pos c11] at H
     have c11b0 : decide (0 ≤ x4_1) = true := decide_eq_true c11
     clear c11
     by_cases c12 : x262002_1.length < 5864062014805
     ·rw [if_pos c12] at H
      have LMc12 := asd c12
      clear c12
      obtain ⟨y263, hy263⟩ : ∃ y_ : List (S77), y_ = (x262002_1 ++ [(⟨(rd_T42 l0_2 x4_1).f0, (rd_T42 l0_2 x4_1).f1, (rd_T42 l0_2 x4_1).f2⟩ : S77)]) := ⟨_, rfl⟩
      replace H : (parcloselaw03_Ref.l0 k1 (wrap64 (x4_1 + 1)) a0_0 a0_1 l0_2 l0_3 l0_4 a0_0 a0_1 y263) = some (r1, r2, r3, r4, r5) := by first | (rw [hy263]; with_reducible exact H) | (have H2_ := (Option.bind_some _ _).symm.trans H; rw [hy263]; with_reducible exact H2_) | (have H2_ := (Option.bind_some _ _).symm.trans H; with_reducible exact H2_) | with_reducible exact H | (rw [hy263]; exact H) | exact H
      have Ny263 := asd hy263
      clear hy263
      have H' := asd H
      clear H
      have hnb13 := NB259_260.out
      have hnc13 := NB260_259.out
      have hnb14 := NB259_261.out
      have hnc14 := NB261_259.out
      have hcz15_0 : wr.cell? ⟨gb259, 0, none⟩ = some (.int .i64 a0_0) := (blk_cell BK259.out 0).trans rfl
      have hcz15_1 : wr.cell? ⟨gb259, 1, none⟩ = some (.int .i64 a0_1) := (blk_cell BK259.out 1).trans rfl
      have hcz15_2 : wr.cell? ⟨gb259, 2, none⟩ = some (.slice A0_2 l0_2.length c0_2) := (blk_cell BK259.out 2).trans rfl
      have hcz15_3 : wr.cell? ⟨gb259, 3, none⟩ = some (.slice A0_3 l0_3.length c0_3) := (blk_cell BK259.out 3).trans rfl
      have hcz15_4 : wr.cell? ⟨gb259, 4, none⟩ = some (.slice A0_4 l0_4.length c0_4) := (blk_cell BK259.out 4).trans rfl
      have hfz15_0 := blk_frozen BK259.out 0
      have hfz15_1 := blk_frozen BK259.out 1
      have hfz15_2 := blk_frozen BK259.out 2
      have hfz15_3 := blk_frozen BK259.out 3
      have hfz15_4 := blk_frozen BK259.out 4
      try go_wp2
      have n0_ := asd (Kd.R_drew HO_262002.out)
      have n1_ := asd (blk_drew BK259.out)
      have n2_ := asd (blk_drew BK260.out)
      have n3_ := asd (blk_drew BK261.out)
      have n4_ := asd (below_drew1 HB.out)
      clear HO_262002
      clear BK259
      clear BK260
      clear BK261
      clear HB
      have HO_262002 := n0_
      have BK259 := n1_
      have BK260 := n2_
      have BK261 := n3_
      have HB := n4_
      clear n0_ n1_ n2_ n3_ n4_
      have p262 : 0 ≤ (x4_1 : Int) := of_decide_eq_true (by assumption)
      have q262 : x4_1 < (l0_2.length : Int) := of_decide_eq_true (by assumption)
      obtain ⟨ad262, e262, hx262_0, hx262_1, hx262_2⟩ := at_T42 HR0_2.out x4_1 p262 q262
      have hw262_2 := hx262_2
      have hw262_1 := hx262_1
      have hw262_0 := hx262_0
      cases e262
      replace hx262_0 := (HB.out.cell (World.block_lt_of_cell? w _ hx262_0)).trans hx262_0
      replace hx262_1 := (HB.out.cell (World.block_lt_of_cell? w _ hx262_1)).trans hx262_1
      replace hx262_2 := (HB.out.cell (World.block_lt_of_cell? w _ hx262_2)).trans hx262_2
      replace p262 := eq_true p262
      replace q262 := eq_true q262
      refine start_ (n := 11) (S := fun w' => w'.cell? ⟨gb261, 0, none⟩ = some (.int .i64 a0_0) ∧ w'.cell? ⟨gb261, 1, none⟩ = some (.int .i64 a0_1) ∧ w'.cell? ⟨gb261, 2, none⟩ = some (u262002) ∧ w'.cell? ⟨gb261, 3, none⟩ = some (.slice none 0 0) ∧ w'.cell? ⟨gb261, 4, none⟩ = some (.slice none 0 0) ∧ w'.cell? ⟨gb259, 0, none⟩ = some (.int .i64 a0_0) ∧ w'.cell? ⟨gb259, 1, none⟩ = some (.int .i64 a0_1) ∧ w'.cell? ⟨gb259, 2, none⟩ = some (.slice (some ad262) l0_2.length c0_2) ∧ w'.cell? ⟨gb259, 3, none⟩ = some (.slice A0_3 l0_3.length c0_3) ∧ w'.cell? ⟨gb259, 4, none⟩ = some (.slice A0_4 l0_4.length c0_4) ∧ w'.cell? (ad262.add ((x4_1).toNat * 3)) = some (.int .i64 ((rd_T42 l0_2 x4_1).f0)) ∧ w'.cell? ⟨(ad262.add ((x4_1).toNat * 3)).block, (ad262.add ((x4_1).toNat * 3)).off + 1, none⟩ = some (.int .i64 ((rd_T42 l0_2 x4_1).f1)) ∧ w'.cell? ⟨(ad262.add ((x4_1).toNat * 3)).block, (ad262.add ((x4_1).toNat * 3)).off + 2, none⟩ = some (.int .i64 ((rd_T42 l0_2 x4_1).f2))) (ds := [10]) #[false, false, false, false, false, false, false, false, false, false, false] (by kernel_rfl) rfl rfl ⟨(blk_cell BK261.out 0).trans rfl, (blk_cell BK261.out 1).trans rfl, (blk_cell BK261.out 2).trans rfl, (blk_cell BK261.out 3).trans rfl, (blk_cell BK261.out 4).trans rfl, (blk_cell BK259.out 0).trans rfl, (blk_cell BK259.out 1).trans rfl, (blk_cell BK259.out 2).trans rfl, (blk_cell BK259.out 3).trans rfl, (blk_cell BK259.out 4).trans rfl, ((HB.out.cell (World.block_lt_of_cell? w _ hw262_0)).trans hw262_0), ((HB.out.cell (World.block_lt_of_cell? w _ hw262_1)).trans hw262_1), ((HB.out.cell (World.block_lt_of_cell? w _ hw262_2)).trans hw262_2)⟩ (fun hHeld => ?_); refine with_tabW parcloselaw03_Ref.tab5 parcloselaw03_Ref.bits5 (fun HT_ HW_ => ?_)
      generalize wr.drew = w16 at HO_262002 BK259 BK260 BK261 HB hx262_0 hx262_1 hx262_2 hHeld ⊢
      refine pure_ (i := 0) (N := some 19) (v := ?_) (a' := ?_) #[true, false, false, false, false, false, false, false, false, false, false] rfl rfl (any_of HT_.out (by kernel_rfl)) (fun _ _ _ h => h) (Or.inl ⟨by rfl, ?_⟩) ?_ ?_
      rotate_left
      ·intro w'
       go_simp
       with_reducible rfl
      rotate_left
      ·simp only [Act.put, sB, i64_w, i32_w]
       rfl
      refine pure_ (i := 2) (N := some 21) (v := ?_) (a' := ?_) #[true, false, true, false, false, false, false, false, false, false, false] rfl rfl (any_of HT_.out (by kernel_rfl)) (fun _ _ _ h => h) (Or.inl ⟨by rfl, ?_⟩) ?_ ?_
      rotate_left
      ·intro w'
       go_simp
       with_reducible rfl
      rotate_left
      ·simp only [Act.put, sB, i64_w, i32_w]
       rfl
      refine pure_ (i := 4) (N := some 23) (v := ?_) (a' := ?_) #[true, false, true, false, true, false, false, false, false, false, false] rfl rfl (any_of HT_.out (by kernel_rfl)) (fun _ _ _ h => h) (Or.inl ⟨by rfl, ?_⟩) ?_ ?_
      rotate_left
      ·intro w'
       go_simp
       with_reducible rfl
      rotate_left
      ·simp only [Act.put, sB, i64_w, i32_w]
       rfl
      refine take_ (i := 1) (N := some 20) (v := ?_) (a' := ?_) #[true, true, true, false, true, false, false, false, false, false, false] rfl rfl (take_ofW HT_.out HW_.out (by kernel_rfl)) (fun _ _ _ h => h) (Or.inl ⟨by rfl, ?_⟩) hHeld ?_ ?_
      rotate_left
      ·rintro w' ⟨s0, s1, s2, s3, s4, s5, s6, s7, s8, s9, s10, s11, s12⟩
       go_simp
       with_reducible rfl
      rotate_left
      ·simp only [Act.put, sB, i64_w, i32_w]
       rfl
      refine take_ (i := 3) (N := some 22) (v := ?_) (a' := ?_) #[true, true, true, true, true, false, false, false, false, false, false] rfl rfl (take_ofW HT_.out HW_.out (by kernel_rfl)) (fun _ _ _ h => h) (Or.inl ⟨by rfl, ?_⟩) hHeld ?_ ?_
      rotate_left
      ·rintro w' ⟨s0, s1, s2, s3, s4, s5, s6, s7, s8, s9, s10, s11, s12⟩
       go_simp
       with_reducible rfl
      rotate_left
      ·simp only [Act.put, sB, i64_w, i32_w]
       rfl
      refine pure_ (i := 5) (N := some 24) (v := ?_) (a' := ?_) #[true, true, true, true, true, true, false, false, false, false, false] rfl rfl (any_of HT_.out (by kernel_rfl)) (fun _ _ _ h => h) (Or.inl ⟨by rfl, ?_⟩) ?_ ?_
      rotate_left
      ·intro w'
       go_simp
       with_reducible rfl
      rotate_left
      ·simp only [Act.put, sB, i64_w, i32_w]
       rfl
      refine take_ (i := 6) (N := some 25) (v := ?_) (a' := ?_) #[true, true, true, true, true, true, true, false, false, false, false] rfl rfl (take_ofW HT_.out HW_.out (by kernel_rfl)) (fun _ _ _ h => h) (Or.inl ⟨by rfl, ?_⟩) hHeld ?_ ?_
      rotate_left
      ·rintro w' ⟨s0, s1, s2, s3, s4, s5, s6, s7, s8, s9, s10, s11, s12⟩
       go_simp
       with_reducible rfl
      rotate_left
      ·simp only [Act.put, sB, i64_w, i32_w]
       rfl
      refine one_ (i := 7) (N := some 26) #[true, true, true, true, true, true, true, true, false, false, false] rfl rfl (one_of HT_.out (by kernel_rfl)) (by decide) (fun K hK => ?_)
      refine value_ (w1 := ?_) (v := ?_) (by rfl) rfl ?_ ?_
      rotate_left 2
      ·go_simp
       constructor
       ·rfl
       ·rfl
      refine hK.out _ _ ⟨(blk_cell (blk_alloc BK261.out _) 0).trans rfl, (blk_cell (blk_alloc BK261.out _) 1).trans rfl, (blk_cell (blk_alloc BK261.out _) 2).trans rfl, (blk_cell (blk_alloc BK261.out _) 3).trans rfl, (blk_cell (blk_alloc BK261.out _) 4).trans rfl, (blk_cell (blk_alloc BK259.out _) 0).trans rfl, (blk_cell (blk_alloc BK259.out _) 1).trans rfl, (blk_cell (blk_alloc BK259.out _) 2).trans rfl, (blk_cell (blk_alloc BK259.out _) 3).trans rfl, (blk_cell (blk_alloc BK259.out _) 4).trans rfl, (World.cell?_alloc_lt _ _ _ (World.block_lt_of_cell? _ _ (((HB.out.cell (World.block_lt_of_cell? w _ hw262_0)).trans hw262_0)))).trans (((HB.out.cell (World.block_lt_of_cell? w _ hw262_0)).trans hw262_0)), (World.cell?_alloc_lt _ _ _ (World.block_lt_of_cell? _ _ (((HB.out.cell (World.block_lt_of_cell? w _ hw262_1)).trans hw262_1)))).trans (((HB.out.cell (World.block_lt_of_cell? w _ hw262_1)).trans hw262_1)), (World.cell?_alloc_lt _ _ _ (World.block_lt_of_cell? _ _ (((HB.out.cell (World.block_lt_of_cell? w _ hw262_2)).trans hw262_2)))).trans (((HB.out.cell (World.block_lt_of_cell? w _ hw262_2)).trans hw262_2))⟩ (fun hHeld => ?_)
      clear hK K
      refine norm_ (a' := ?_) ?_ ?_
      rotate_left
      ·show Act.put _ (some 26) _ = _
       simp only [Act.put, sB, i64_w, i32_w]
       rfl
      refine one_ (i := 8) (N := some 27) #[true, true, true, true, true, true, true, true, true, false, false] rfl rfl (one_of HT_.out (by kernel_rfl)) (by decide) (fun K hK => ?_)
      refine Kd.R_append_step k77 (w0 := w) w.heap.size (by rfl) (.tmp 20) (.tmp 26) 22 77 (.agg #[(.int .i64 0), (.int .i64 0), (.int .i64 0)]) 24 rfl Try.underlying22 info77 rfl (by decide) (by omega) u262002 x262002_1 (⟨(rd_T42 l0_2 x4_1).f0, (rd_T42 l0_2 x4_1).f1, (rd_T42 l0_2 x4_1).f2⟩ : S77) [.int .i64 ((rd_T42 l0_2 x4_1).f0), .int .i64 ((rd_T42 l0_2 x4_1).f1), .int .i64 ((rd_T42 l0_2 x4_1).f2)] (fun _ => True) (fun _ => False) rfl rfl ?aP (fun _ hk => hk.elim) ?aF ?aO ?aB ?aS ?aL ?_
      (case aP => exact k77_mkM _ _ _ (⟨(rd_T42 l0_2 x4_1).f0, (rd_T42 l0_2 x4_1).f1, (rd_T42 l0_2 x4_1).f2⟩ : S77))
      (case aB => exact (by repeat (first | (with_reducible first | exact HB.out | apply wa | apply wn | apply wd | refine ws ?_ GE259.out | refine ws ?_ GE260.out | refine ws ?_ GE261.out) | exact HB.out)))
      (case aF => exact (fun _ _ => trivial))
      (case aO => exact (by (with_reducible repeat (first | apply Kd.R_alloc | apply Kd.R_drewN | apply Kd.R_drew)); exact HO_262002.out))
      (case aS => exact (below_size (by repeat (first | (with_reducible first | exact HB.out | apply wa | apply wn | apply wd | refine ws ?_ GE259.out | refine ws ?_ GE260.out | refine ws ?_ GE261.out) | exact HB.out))))
      (case aL => have := LMc12.out; omega)
      intro v264 w17 ho hb hg hat
      rw [← Ny263.out] at ho
      have n0_ := asd (blk_grown (g := gb259) (o := .cells #[.int .i64 a0_0, .int .i64 a0_1, .slice (some ad262) l0_2.length c0_2, .slice A0_3 l0_3.length c0_3, .slice A0_4 l0_4.length c0_4] 34 (0, 0)) (by (with_reducible repeat first | apply bn | apply bd | apply ba); exact BK259.out) hg (Kd.R_ne HO_262002.out BK259.out (by decide)))
      have n1_ := asd (blk_grown (g := gb260) (o := .cells #[.int .i64 0, .int .i64 0, .slice none 0 0, .slice none 0 0, .slice none 0 0] 26 (0, 0)) (by (with_reducible repeat first | apply bn | apply bd | apply ba); exact BK260.out) hg (Kd.R_ne HO_262002.out BK260.out (by decide)))
      have n2_ := asd (blk_grown (g := gb261) (o := .cells #[.int .i64 a0_0, .int .i64 a0_1, u262002, .slice none 0 0, .slice none 0 0] 26 (0, 0)) (by (with_reducible repeat first | apply bn | apply bd | apply ba); exact BK261.out) hg (Kd.R_ne HO_262002.out BK261.out (by decide)))
      have n3_ := asd (hb)
      have n4_ := asd (ho)
      clear BK259
      clear BK260
      clear BK261
      clear HB
      clear HO_262002
      have BK259 := n0_
      have BK260 := n1_
      have BK261 := n2_
      have HB := n3_
      have HO265 := n4_
      clear n0_ n1_ n2_ n3_ n4_
      clear ho hb hg hat
      obtain ⟨Ao18, co18, eo18⟩ := Kd.R_slice HO265.out
      (first | subst eo18 | (injection eo18 with f1_ f2_ f3_; have f4_ := f1_.symm; have f5_ := f3_.symm; clear f1_ f2_ f3_; subst f4_; subst f5_))
      refine hK.out _ _ ⟨(blk_cell BK261.out 0).trans rfl, (blk_cell BK261.out 1).trans rfl, (blk_cell BK261.out 2).trans rfl, (blk_cell BK261.out 3).trans rfl, (blk_cell BK261.out 4).trans rfl, (blk_cell BK259.out 0).trans rfl, (blk_cell BK259.out 1).trans rfl, (blk_cell BK259.out 2).trans rfl, (blk_cell BK259.out 3).trans rfl, (blk_cell BK259.out 4).trans rfl, ((HB.out.cell (World.block_lt_of_cell? w _ hw262_0)).trans hw262_0), ((HB.out.cell (World.block_lt_of_cell? w _ hw262_1)).trans hw262_1), ((HB.out.cell (World.block_lt_of_cell? w _ hw262_2)).trans hw262_2)⟩ (fun hHeld => ?_)
      clear hK K
      refine norm_ (a' := ?_) ?_ ?_
      rotate_left
      ·show Act.put _ (some 27) _ = _
       simp only [Act.put, sB, i64_w, i32_w]
       rfl
      refine pure_ (i := 9) (N := some 28) (v := ?_) (a' := ?_) #[true, true, true, true, true, true, true, true, true, true, false] rfl rfl (any_of HT_.out (by kernel_rfl)) (fun _ _ _ h => h) (Or.inl ⟨by rfl, ?_⟩) ?_ ?_
      rotate_left
      ·intro w'
       go_simp
       with_reducible rfl
      rotate_left
      ·simp only [Act.put, sB, i64_w, i32_w]
       rfl
      refine last_ (i := 10) (N := none) #[true, true, true, true, true, true, true, true, true, true, true] rfl rfl (one_of HT_.out (by kernel_rfl)) (by decide) (fun K hK => ?_)
      have hs19 : w17.cell? ⟨gb261, 2, none⟩ = some (u262002) := (blk_cell BK261.out 2).trans rfl
      have hfs19 := blk_frozen BK261.out 2
      have hns19_0 := NB259_261.out
      have hns19_1 := NB260_261.out
      have hms19_0 := NB261_259.out
      have hms19_1 := NB261_260.out
      refine skip_ (w1 := ?_) (by rfl) rfl ?_ ?_
      rotate_left
      ·go_simp
       rfl
      refine hK.out _ _ ?_
      clear hK K
      refine done_ (done_of HT_.out (by kernel_rfl)) ?_
      try go_wp2
      go_roundg k1
      case measure => have := HK1.out; omega
      case rel => exact ⟨(wrap64 (x4_1 + 1)), (y263), (.slice Ao18 y263.length co18), (by first | rfl | (simp; done) | (simp [*]; done)), H', ⟨by have := HK1.out; omega⟩, ⟨by (with_reducible repeat (first | apply Kd.R_alloc | apply Kd.R_drewN | apply Kd.R_drew)); exact Kd.R_mono (Kd.R_far (p := ⟨gb261, 2, none⟩) (Kd.R_types HO265.out BK261.out (by decide)) (fun _ hk => hk.2) (.slice Ao18 y263.length co18)) (fun _ hk => trivial)⟩, ⟨by (with_reducible repeat first | apply bn | apply bd | apply ba); refine blk_far ?_ NB259_261.out _; (with_reducible repeat first | apply bn | apply bd | apply ba); exact BK259.out⟩, ⟨by (with_reducible repeat first | apply bn | apply bd | apply ba); refine blk_far ?_ NB260_261.out _; (with_reducible repeat first | apply bn | apply bd | apply ba); exact BK260.out⟩, ⟨by (with_reducible repeat first | apply bn | apply bd | apply ba); refine blk_put (cs := #[.int .i64 a0_0, .int .i64 a0_1, u262002, .slice none 0 0, .slice none 0 0]) ?_ 2 _ rfl; (with_reducible repeat first | apply bn | apply bd | apply ba); exact BK261.out⟩, ⟨by repeat (first | (with_reducible first | exact HB.out | apply wa | apply wn | apply wd | refine ws ?_ GE259.out | refine ws ?_ GE260.out | refine ws ?_ GE261.out) | exact HB.out)⟩⟩
     ·rw [if_neg c12] at H
      exact absurd H (by simp)
    ·rw [if_neg c11] at H
     exact absurd H (by simp)
   ·rw [if_neg c10] at H
    have c10b0 : decide (x4_1 < (l0_2.length : Int)) = false := decide_eq_false c10
    clear c10
    have H' := asd H
    clear H
    have hnb20 := NB259_260.out
    have hnc20 := NB260_259.out
    have hnb21 := NB259_261.out
    have hnc21 := NB261_259.out
    have hcz22_0 : wr.cell? ⟨gb259, 0, none⟩ = some (.int .i64 a0_0) := (blk_cell BK259.out 0).trans rfl
    have hcz22_1 : wr.cell? ⟨gb259, 1, none⟩ = some (.int .i64 a0_1) := (blk_cell BK259.out 1).trans rfl
    have hcz22_2 : wr.cell? ⟨gb259, 2, none⟩ = some (.slice A0_2 l0_2.length c0_2) := (blk_cell BK259.out 2).trans rfl
    have hcz22_3 : wr.cell? ⟨gb259, 3, none⟩ = some (.slice A0_3 l0_3.length c0_3) := (blk_cell BK259.out 3).trans rfl
    have hcz22_4 : wr.cell? ⟨gb259, 4, none⟩ = some (.slice A0_4 l0_4.length c0_4) := (blk_cell BK259.out 4).trans rfl
    have hfz22_0 := blk_frozen BK259.out 0
    have hfz22_1 := blk_frozen BK259.out 1
    have hfz22_2 := blk_frozen BK259.out 2
    have hfz22_3 := blk_frozen BK259.out 3
    have hfz22_4 := blk_frozen BK259.out 4
    go_wp2
    go_loopg [5] k1 (fun kq v5 w' => ∃ (x5_2 : Int) (x262003_2 : List (S61)) (u262003 : Value), v5 = .int .i64 x5_2 ∧ Aside0 (parcloselaw03_Ref.l1 kq x5_2 a0_0 a0_1 l0_2 l0_3 l0_4 a0_0 a0_1 x262002_1 x262003_2 = some (r1, r2, r3, r4, r5)) ∧ Aside0 (kq ≤ k1) ∧ Aside0 (Kd.R k77 77 w' w.heap.size (fun _ => True) u262002 x262002_1) ∧ Aside0 (Kd.S k61 61 w' w.heap.size (fun _ => True) u262003 x262003_2) ∧ Aside0 (w'.heap[gb259]? = some (.cells #[.int .i64 a0_0, .int .i64 a0_1, (.slice A0_2 l0_2.length c0_2), (.slice A0_3 l0_3.length c0_3), (.slice A0_4 l0_4.length c0_4)] 34 (0, 0))) ∧ Aside0 (w'.heap[gb260]? = some (.cells #[.int .i64 0, .int .i64 0, (.slice none 0 0), (.slice none 0 0), (.slice none 0 0)] 26 (0, 0))) ∧ Aside0 (w'.heap[gb261]? = some (.cells #[.int .i64 a0_0, .int .i64 a0_1, u262002, u262003, (.slice none 0 0)] 26 (0, 0))) ∧ Aside0 (Below w.heap.size w w'))
    case atStart => exact ⟨(0), (([] : List (S61))), (.slice none 0 0), (by first | rfl | (simp; done) | (simp [*]; done)), H', ⟨Nat.le_refl _⟩, ⟨by (with_reducible repeat (first | apply Kd.R_alloc | apply Kd.R_drewN | apply Kd.R_drew)); exact HO_262002.out⟩, ⟨by first | exact Kd.S_nil _ _ _ _ _ | exact Kd.N_nil _ _ _ _ _ | exact Kd.V_nil _ _ _ _ _ | exact Kd.Q_nil _ _ _ _ _ | exact Kd.R_nil _ _ _ _ _⟩, ⟨by (with_reducible repeat first | apply bn | apply bd | apply ba); exact BK259.out⟩, ⟨by (with_reducible repeat first | apply bn | apply bd | apply ba); exact BK260.out⟩, ⟨by (with_reducible repeat first | apply bn | apply bd | apply ba); exact BK261.out⟩, ⟨by repeat (first | (with_reducible first | exact HB.out | apply wa | apply wn | apply wd | refine ws ?_ GE259.out | refine ws ?_ GE260.out | refine ws ?_ GE261.out) | exact HB.out)⟩⟩
    case round =>
     clear H'
     try clear c1
     try clear c2
     try clear p2
     try clear q2
     try clear hx2
     try clear c4
     try clear p6
     try clear c7
     try clear c8
     try clear c10
     try clear c10b0
     try clear c11
     try clear c11b0
     try clear c12
     try clear c13
     try clear c14
     try clear c20
     try clear c21
     try clear hcz15_0
     try clear hcz15_1
     try clear hcz15_2
     try clear hcz15_3
     try clear hcz15_4
     try clear hcz22_0
     try clear hcz22_1
     try clear hcz22_2
     try clear hcz22_3
     try clear hcz22_4
     try clear hcz5_0
     try clear hcz5_1
     try clear hcz5_2
     try clear hcz5_3
     try clear hcz5_4
     try clear hcz9_0
     try clear hcz9_1
     try clear hcz9_2
     try clear hcz9_3
     try clear hcz9_4
     try clear hfz15_0
     try clear hfz15_1
     try clear hfz15_2
     try clear hfz15_3
     try clear hfz15_4
     try clear hfz22_0
     try clear hfz22_1
     try clear hfz22_2
     try clear hfz22_3
     try clear hfz22_4
     try clear hfz5_0
     try clear hfz5_1
     try clear hfz5_2
     try clear hfz5_3
     try clear hfz5_4
     try clear hfz9_0
     try clear hfz9_1
     try clear hfz9_2
     try clear hfz9_3
     try clear hfz9_4
     try clear hx262_0
     try clear hx262_1
     try clear hx262_2
     try clear p2
     try clear p262
     try clear q262
     obtain ⟨x5_2, x262003_2, u262003, rfl, HA, HK2, HO_262002, HO_262003, BK259, BK260, BK261, HB⟩ := hrel
     cases gk with
     | zero => exact absurd HA.out (by simp [parcloselaw03_Ref.l1])
     | succ k2 =>
      have H := HA.out
      clear HA
      simp only [parcloselaw03_Ref.l1] at H
      by_cases c23 : x5_2 < (l0_3.length : Int)
      ·rw [if_pos c23] at H
       have c23b0 : decide (x5_2 < (l0_3.length : Int)) = true := decide_eq_true c23
       clear c23
       by_cases c24 : 0 ≤ x5_2
       ·rw [if_pos c24] at H
        have c24b0 : decide (0 ≤ x5_2) = true := decide_eq_true c24
        clear c24
        replace H := Option.bind_eq_some_iff.mp H
        obtain ⟨⟨t267, t270, t273, t276, t277, t278⟩, A250, H⟩ := H
        replace H : (if x262003_2.length < 1759218604441 then (parcloselaw03_Ref.l1 k2 (wrap64 (x5_2 + 1)) a0_0 a0_1 l0_2 l0_3 l0_4 a0_0 a0_1 x262002_1 (x262003_2 ++ [(⟨t267, t270, t273, (⟨t276, t277, t278⟩ : S47)⟩ : S61)])) else (none)) = some (r1, r2, r3, r4, r5) := H
        have A25 := asd A250
        clear A250
        by_cases c26 : x262003_2.length < 1759218604441
        ·rw [if_pos c26] at H
         have LMc26 := asd c26
         clear c26
         obtain ⟨y279, hy279⟩ : ∃ y_ : List (S61), y_ = (x262003_2 ++ [(⟨t267, t270, t273, (⟨t276, t277, t278⟩ : S47)⟩ : S61)]) := ⟨_, rfl⟩
         replace H : (parcloselaw03_Ref.l1 k2 (wrap64 (x5_2 + 1)) a0_0 a0_1 l0_2 l0_3 l0_4 a0_0 a0_1 x262002_1 y279) = some (r1, r2, r3, r4, r5) := by first | (rw [hy279]; with_reducible exact H) | (have H2_ := (Option.bind_some _ _).symm.trans H; rw [hy279]; with_reducible exact H2_) | (have H2_ := (Option.bind_some _ _).symm.trans H; with_reducible exact H2_) | with_reducible exact H | (rw [hy279]; exact H) | exact H
         have Ny279 := asd hy279
         clear hy279
         have H' := asd H
         clear H
         have hnb27 := NB259_260.out
         have hnc27 := NB260_259.out
         have hnb28 := NB259_261.out
         have hnc28 := NB261_259.out
         have hcz29_0 : wr.cell? ⟨gb259, 0, none⟩ = some (.int .i64 a0_0) := (blk_cell BK259.out 0).trans rfl
         have hcz29_1 : wr.cell? ⟨gb259, 1, none⟩ = some (.int .i64 a0_1) := (blk_cell BK259.out 1).trans rfl
         have hcz29_2 : wr.cell? ⟨gb259, 2, none⟩ = some (.slice A0_2 l0_2.length c0_2) := (blk_cell BK259.out 2).trans rfl
         have hcz29_3 : wr.cell? ⟨gb259, 3, none⟩ = some (.slice A0_3 l0_3.length c0_3) := (blk_cell BK259.out 3).trans rfl
         have hcz29_4 : wr.cell? ⟨gb259, 4, none⟩ = some (.slice A0_4 l0_4.length c0_4) := (blk_cell BK259.out 4).trans rfl
         have hfz29_0 := blk_frozen BK259.out 0
         have hfz29_1 := blk_frozen BK259.out 1
         have hfz29_2 := blk_frozen BK259.out 2
         have hfz29_3 := blk_frozen BK259.out 3
         have hfz29_4 := blk_frozen BK259.out 4
         try go_wp2
         have n0_ := asd (Kd.R_drew HO_262002.out)
         have n1_ := asd (Kd.S_drew HO_262003.out)
         have n2_ := asd (blk_drew BK259.out)
         have n3_ := asd (blk_drew BK260.out)
         have n4_ := asd (blk_drew BK261.out)
         have n5_ := asd (below_drew1 HB.out)
         clear HO_262002
         clear HO_262003
         clear BK259
         clear BK260
         clear BK261
         clear HB
         have HO_262002 := n0_
         have HO_262003 := n1_
         have BK259 := n2_
         have BK260 := n3_
         have BK261 := n4_
         have HB := n5_
         clear n0_ n1_ n2_ n3_ n4_ n5_
         have p266 : 0 ≤ (x5_2 : Int) := of_decide_eq_true (by assumption)
         have q266 : x5_2 < (l0_3.length : Int) := of_decide_eq_true (by assumption)
         obtain ⟨ad266, A266_0, c266_0, A266_1, c266_1, A266_2, c266_2, e266, hx266_0, hx266_1, hx266_2, hx266_3, hx266_4, hx266_5, hl266_0, hi266_0, hl266_1, hi266_1, hl266_2, hi266_2⟩ := at_T49 HR0_3.out x5_2 p266 q266
         have hw266_5 := hx266_5
         have hw266_4 := hx266_4
         have hw266_3 := hx266_3
         have hw266_2 := hx266_2
         have hw266_1 := hx266_1
         have hw266_0 := hx266_0
         cases e266
         replace hx266_0 := (HB.out.cell (World.block_lt_of_cell? w _ hx266_0)).trans hx266_0
         replace hx266_1 := (HB.out.cell (World.block_lt_of_cell? w _ hx266_1)).trans hx266_1
         replace hx266_2 := (HB.out.cell (World.block_lt_of_cell? w _ hx266_2)).trans hx266_2
         replace hx266_3 := (HB.out.cell (World.block_lt_of_cell? w _ hx266_3)).trans hx266_3
         replace hx266_4 := (HB.out.cell (World.block_lt_of_cell? w _ hx266_4)).trans hx266_4
         replace hx266_5 := (HB.out.cell (World.block_lt_of_cell? w _ hx266_5)).trans hx266_5
         have HR266_0 := asd hi266_0
         have HC266_0 := asd hl266_0
         clear hi266_0 hl266_0
         have HR266_1 := asd hi266_1
         have HC266_1 := asd hl266_1
         clear hi266_1 hl266_1
         have HR266_2 := asd hi266_2
         have HC266_2 := asd hl266_2
         clear hi266_2 hl266_2
         replace p266 := eq_true p266
         replace q266 := eq_true q266
         refine start_ (n := 12) (S := fun w' => w'.cell? ⟨gb261, 0, none⟩ = some (.int .i64 a0_0) ∧ w'.cell? ⟨gb261, 1, none⟩ = some (.int .i64 a0_1) ∧ w'.cell? ⟨gb261, 2, none⟩ = some (u262002) ∧ w'.cell? ⟨gb261, 3, none⟩ = some (u262003) ∧ w'.cell? ⟨gb261, 4, none⟩ = some (.slice none 0 0) ∧ w'.cell? ⟨gb259, 0, none⟩ = some (.int .i64 a0_0) ∧ w'.cell? ⟨gb259, 1, none⟩ = some (.int .i64 a0_1) ∧ w'.cell? ⟨gb259, 2, none⟩ = some (.slice A0_2 l0_2.length c0_2) ∧ w'.cell? ⟨gb259, 3, none⟩ = some (.slice (some ad266) l0_3.length c0_3) ∧ w'.cell? ⟨gb259, 4, none⟩ = some (.slice A0_4 l0_4.length c0_4) ∧ w'.cell? (ad266.add ((x5_2).toNat * 6)) = some (.slice A266_0 ((rd_T49 l0_3 x5_2).f0).length c266_0) ∧ w'.cell? ⟨(ad266.add ((x5_2).toNat * 6)).block, (ad266.add ((x5_2).toNat * 6)).off + 1, none⟩ = some (.slice A266_1 ((rd_T49 l0_3 x5_2).f1).length c266_1) ∧ w'.cell? ⟨(ad266.add ((x5_2).toNat * 6)).block, (ad266.add ((x5_2).toNat * 6)).off + 2, none⟩ = some (.slice A266_2 ((rd_T49 l0_3 x5_2).f2).length c266_2) ∧ w'.cell? ⟨(ad266.add ((x5_2).toNat * 6)).block, (ad266.add ((x5_2).toNat * 6)).off + 3, none⟩ = some (.int .u8 ((rd_T49 l0_3 x5_2).f3.f0)) ∧ w'.cell? ⟨(ad266.add ((x5_2).toNat * 6)).block, (ad266.add ((x5_2).toNat * 6)).off + 4, none⟩ = some (.int .u8 ((rd_T49 l0_3 x5_2).f3.f1)) ∧ w'.cell? ⟨(ad266.add ((x5_2).toNat * 6)).block, (ad266.add ((x5_2).toNat * 6)).off + 5, none⟩ = some (.int .u8 ((rd_T49 l0_3 x5_2).f3.f2))) (ds := [11]) #[false, false, false, false, false, false, false, false, false, false, false, false] (by kernel_rfl) rfl rfl ⟨(blk_cell BK261.out 0).trans rfl, (blk_cell BK261.out 1).trans rfl, (blk_cell BK261.out 2).trans rfl, (blk_cell BK261.out 3).trans rfl, (blk_cell BK261.out 4).trans rfl, (blk_cell BK259.out 0).trans rfl, (blk_cell BK259.out 1).trans rfl, (blk_cell BK259.out 2).trans rfl, (blk_cell BK259.out 3).trans rfl, (blk_cell BK259.out 4).trans rfl, ((HB.out.cell (World.block_lt_of_cell? w _ hw266_0)).trans hw266_0), ((HB.out.cell (World.block_lt_of_cell? w _ hw266_1)).trans hw266_1), ((HB.out.cell (World.block_lt_of_cell? w _ hw266_2)).trans hw266_2), ((HB.out.cell (World.block_lt_of_cell? w _ hw266_3)).trans hw266_3), ((HB.out.cell (World.block_lt_of_cell? w _ hw266_4)).trans hw266_4), ((HB.out.cell (World.block_lt_of_cell? w _ hw266_5)).trans hw266_5)⟩ (fun hHeld => ?_); refine with_tabW parcloselaw03_Ref.tab9 parcloselaw03_Ref.bits9 (fun HT_ HW_ => ?_)
         generalize wr.drew = w30 at HO_262002 HO_262003 BK259 BK260 BK261 HB HR266_0 HR266_1 HR266_2 hx266_0 hx266_1 hx266_2 hx266_3 hx266_4 hx266_5 hHeld ⊢
         refine pure_ (i := 0) (N := some 36) (v := ?_) (a' := ?_) #[true, false, false, false, false, false, false, false, false, false, false, false] rfl rfl (any_of HT_.out (by kernel_rfl)) (fun _ _ _ h => h) (Or.inl ⟨by rfl, ?_⟩) ?_ ?_
         rotate_left
         ·intro w'
          go_simp
          with_reducible rfl
         rotate_left
         ·simp only [Act.put, sB, i64_w, i32_w]
          rfl
         refine pure_ (i := 2) (N := some 38) (v := ?_) (a' := ?_) #[true, false, true, false, false, false, false, false, false, false, false, false] rfl rfl (any_of HT_.out (by kernel_rfl)) (fun _ _ _ h => h) (Or.inl ⟨by rfl, ?_⟩) ?_ ?_
         rotate_left
         ·intro w'
          go_simp
          with_reducible rfl
         rotate_left
         ·simp only [Act.put, sB, i64_w, i32_w]
          rfl
         refine pure_ (i := 4) (N := some 40) (v := ?_) (a' := ?_) #[true, false, true, false, true, false, false, false, false, false, false, false] rfl rfl (any_of HT_.out (by kernel_rfl)) (fun _ _ _ h => h) (Or.inl ⟨by rfl, ?_⟩) ?_ ?_
         rotate_left
         ·intro w'
          go_simp
          with_reducible rfl
         rotate_left
         ·simp only [Act.put, sB, i64_w, i32_w]
          rfl
         refine take_ (i := 1) (N := some 37) (v := ?_) (a' := ?_) #[true, true, true, false, true, false, false, false, false, false, false, false] rfl rfl (take_ofW HT_.out HW_.out (by kernel_rfl)) (fun _ _ _ h => h) (Or.inl ⟨by rfl, ?_⟩) hHeld ?_ ?_
         rotate_left
         ·rintro w' ⟨s0, s1, s2, s3, s4, s5, s6, s7, s8, s9, s10, s11, s12, s13, s14, s15⟩
          go_simp
          with_reducible rfl
         rotate_left
         ·simp only [Act.put, sB, i64_w, i32_w]
          rfl
         refine take_ (i := 3) (N := some 39) (v := ?_) (a' := ?_) #[true, true, true, true, true, false, false, false, false, false, false, false] rfl rfl (take_ofW HT_.out HW_.out (by kernel_rfl)) (fun _ _ _ h => h) (Or.inl ⟨by rfl, ?_⟩) hHeld ?_ ?_
         rotate_left
         ·rintro w' ⟨s0, s1, s2, s3, s4, s5, s6, s7, s8, s9, s10, s11, s12, s13, s14, s15⟩
          go_simp
          with_reducible rfl
         rotate_left
         ·simp only [Act.put, sB, i64_w, i32_w]
          rfl
         refine pure_ (i := 5) (N := some 41) (v := ?_) (a' := ?_) #[true, true, true, true, true, true, false, false, false, false, false, false] rfl rfl (any_of HT_.out (by kernel_rfl)) (fun _ _ _ h => h) (Or.inl ⟨by rfl, ?_⟩) ?_ ?_
         rotate_left
         ·intro w'
          go_simp
          with_reducible rfl
         rotate_left
         ·simp only [Act.put, sB, i64_w, i32_w]
          rfl
         refine take_ (i := 6) (N := some 42) (v := ?_) (a' := ?_) #[true, true, true, true, true, true, true, false, false, false, false, false] rfl rfl (take_ofW HT_.out HW_.out (by kernel_rfl)) (fun _ _ _ h => h) (Or.inl ⟨by rfl, ?_⟩) hHeld ?_ ?_
         rotate_left
         ·rintro w' ⟨s0, s1, s2, s3, s4, s5, s6, s7, s8, s9, s10, s11, s12, s13, s14, s15⟩
          go_simp
          with_reducible rfl
         rotate_left
         ·simp only [Act.put, sB, i64_w, i32_w]
          rfl
         refine one_ (i := 7) (N := some 43) #[true, true, true, true, true, true, true, true, false, false, false, false] rfl rfl (one_of HT_.out (by kernel_rfl)) (by decide) (fun K hK => ?_)
         refine goes_ Try.func56 (by kernel_rfl) rfl #[.agg #[.slice A266_0 ((rd_T49 l0_3 x5_2).f0).length c266_0, .slice A266_1 ((rd_T49 l0_3 x5_2).f1).length c266_1, .slice A266_2 ((rd_T49 l0_3 x5_2).f2).length c266_2, .int .u8 ((rd_T49 l0_3 x5_2).f3.f0), .int .u8 ((rd_T49 l0_3 x5_2).f3.f1), .int .u8 ((rd_T49 l0_3 x5_2).f3.f2)]] (by rfl) rfl rfl (by (try simp only [List.map_toArray, List.map_cons, List.map_nil]); first | done | rfl | (simp only [List.length_drop, List.length_take]; rfl)) ?_
         with_reducible refine (parcloselaw03_RefPart.calls k2 _ _ ((rd_T49 l0_3 x5_2).f0) _ _ ((rd_T49 l0_3 x5_2).f1) _ _ ((rd_T49 l0_3 x5_2).f2) ((rd_T49 l0_3 x5_2).f3.f0) ((rd_T49 l0_3 x5_2).f3.f1) ((rd_T49 l0_3 x5_2).f3.f2) t267 t270 t273 t276 t277 t278 _ ?side1 ?side2 ?side3 ?side4 ?side5 ?side6 A25.out).mono ?_
         (case side1 => repeat (first | exact (Kd.C_below HR266_0.out HB.out) | (with_reducible refine Kd.C_alloc ?_ _) | (with_reducible refine Kd.C_drewN ?_ _) | (with_reducible refine Kd.C_drew ?_)))
         (case side2 => exact HC266_0.out)
         (case side3 => repeat (first | exact (Kd.C_below HR266_1.out HB.out) | (with_reducible refine Kd.C_alloc ?_ _) | (with_reducible refine Kd.C_drewN ?_ _) | (with_reducible refine Kd.C_drew ?_)))
         (case side4 => exact HC266_1.out)
         (case side5 => repeat (first | exact (Kd.C_below HR266_2.out HB.out) | (with_reducible refine Kd.C_alloc ?_ _) | (with_reducible refine Kd.C_drewN ?_ _) | (with_reducible refine Kd.C_drew ?_)))
         (case side6 => exact HC266_2.out)
         rintro e w31 ⟨v268, v271, v274, rfl, ho0, ho1, ho2, hb⟩
         refine ⟨_, rfl, ?_⟩
         have n0_ := asd (Kd.R_below (by (with_reducible repeat (first | apply Kd.R_alloc | apply Kd.R_drewN | apply Kd.R_drew)); exact HO_262002.out) hb)
         have n1_ := asd (Kd.S_mono (Kd.S_told (Kd.S_told (Kd.S_told (Kd.S_old (by (with_reducible repeat (first | apply Kd.S_alloc | apply Kd.S_drewN | apply Kd.S_drew)); exact HO_262003.out) hb) (Kd.R_base ho0)) (Kd.R_base ho1)) (Kd.R_base ho2)) (fun _ h_ => h_.1))
         have n2_ := asd (Kd.R_lower ho0 (below_size (by repeat (first | (with_reducible first | exact HB.out | apply wa | apply wn | apply wd | refine ws ?_ GE259.out | refine ws ?_ GE260.out | refine ws ?_ GE261.out) | exact HB.out))))
         have n3_ := asd (Kd.R_lower ho1 (below_size (by repeat (first | (with_reducible first | exact HB.out | apply wa | apply wn | apply wd | refine ws ?_ GE259.out | refine ws ?_ GE260.out | refine ws ?_ GE261.out) | exact HB.out))))
         have n4_ := asd (Kd.R_lower ho2 (below_size (by repeat (first | (with_reducible first | exact HB.out | apply wa | apply wn | apply wd | refine ws ?_ GE259.out | refine ws ?_ GE260.out | refine ws ?_ GE261.out) | exact HB.out))))
         have n5_ := asd (blk_below (g := gb259) (o := .cells #[.int .i64 a0_0, .int .i64 a0_1, .slice A0_2 l0_2.length c0_2, .slice (some ad266) l0_3.length c0_3, .slice A0_4 l0_4.length c0_4] 34 (0, 0)) (by (with_reducible repeat first | apply bn | apply bd | apply ba); exact BK259.out) hb)
         have n6_ := asd (blk_below (g := gb260) (o := .cells #[.int .i64 0, .int .i64 0, .slice none 0 0, .slice none 0 0, .slice none 0 0] 26 (0, 0)) (by (with_reducible repeat first | apply bn | apply bd | apply ba); exact BK260.out) hb)
         have n7_ := asd (blk_below (g := gb261) (o := .cells #[.int .i64 a0_0, .int .i64 a0_1, u262002, u262003, .slice none 0 0] 26 (0, 0)) (by (with_reducible repeat first | apply bn | apply bd | apply ba); exact BK261.out) hb)
         have n8_ := asd (below_step (by repeat (first | (with_reducible first | exact HB.out | apply wa | apply wn | apply wd | refine ws ?_ GE259.out | refine ws ?_ GE260.out | refine ws ?_ GE261.out) | exact HB.out)) hb)
         clear HO_262002
         clear HO_262003
         clear BK259
         clear BK260
         clear BK261
         clear HB
         have HO_262002 := n0_
         have HO_262003 := n1_
         have HO269 := n2_
         have HO272 := n3_
         have HO275 := n4_
         have BK259 := n5_
         have BK260 := n6_
         have BK261 := n7_
         have HB := n8_
         clear n0_ n1_ n2_ n3_ n4_ n5_ n6_ n7_ n8_
         (try clear hb)
         (try clear hb2)
         (try clear hk)
         (try clear hi)
         (try clear ho0)
         (try clear ho1)
         (try clear ho2)
         obtain ⟨Ao33, co33, eo33⟩ := Kd.R_slice HO269.out
         (first | subst eo33 | (injection eo33 with f1_ f2_ f3_; have f4_ := f1_.symm; have f5_ := f3_.symm; clear f1_ f2_ f3_; subst f4_; subst f5_))
         obtain ⟨Ao34, co34, eo34⟩ := Kd.R_slice HO272.out
         (first | subst eo34 | (injection eo34 with f1_ f2_ f3_; have f4_ := f1_.symm; have f5_ := f3_.symm; clear f1_ f2_ f3_; subst f4_; subst f5_))
         obtain ⟨Ao35, co35, eo35⟩ := Kd.R_slice HO275.out
         (first | subst eo35 | (injection eo35 with f1_ f2_ f3_; have f4_ := f1_.symm; have f5_ := f3_.symm; clear f1_ f2_ f3_; subst f4_; subst f5_))
         refine hK.out _ _ ⟨(blk_cell BK261.out 0).trans rfl, (blk_cell BK261.out 1).trans rfl, (blk_cell BK261.out 2).trans rfl, (blk_cell BK261.out 3).trans rfl, (blk_cell BK261.out 4).trans rfl, (blk_cell BK259.out 0).trans rfl, (blk_cell BK259.out 1).trans rfl, (blk_cell BK259.out 2).trans rfl, (blk_cell BK259.out 3).trans rfl, (blk_cell BK259.out 4).trans rfl, ((HB.out.cell (World.block_lt_of_cell? w _ hw266_0)).trans hw266_0), ((HB.out.cell (World.block_lt_of_cell? w _ hw266_1)).trans hw266_1), ((HB.out.cell (World.block_lt_of_cell? w _ hw266_2)).trans hw266_2), ((HB.out.cell (World.block_lt_of_cell? w _ hw266_3)).trans hw266_3), ((HB.out.cell (World.block_lt_of_cell? w _ hw266_4)).trans hw266_4), ((HB.out.cell (World.block_lt_of_cell? w _ hw266_5)).trans hw266_5)⟩ (fun hHeld => ?_)
         clear hK K
         refine norm_ (a' := ?_) ?_ ?_
         rotate_left
         ·show Act.put _ (some 43) _ = _
          simp only [Act.put, sB, i64_w, i32_w]
          rfl
         refine one_ (i := 8) (N := some 44) #[true, true, true, true, true, true, true, true, true, false, false, false] rfl rfl (one_of HT_.out (by kernel_rfl)) (by decide) (fun K hK => ?_)
         refine value_ (w1 := ?_) (v := ?_) (by rfl) rfl ?_ ?_
         rotate_left 2
         ·go_simp
          constructor
          ·rfl
          ·rfl
         refine hK.out _ _ ⟨(blk_cell (blk_alloc BK261.out _) 0).trans rfl, (blk_cell (blk_alloc BK261.out _) 1).trans rfl, (blk_cell (blk_alloc BK261.out _) 2).trans rfl, (blk_cell (blk_alloc BK261.out _) 3).trans rfl, (blk_cell (blk_alloc BK261.out _) 4).trans rfl, (blk_cell (blk_alloc BK259.out _) 0).trans rfl, (blk_cell (blk_alloc BK259.out _) 1).trans rfl, (blk_cell (blk_alloc BK259.out _) 2).trans rfl, (blk_cell (blk_alloc BK259.out _) 3).trans rfl, (blk_cell (blk_alloc BK259.out _) 4).trans rfl, (World.cell?_alloc_lt _ _ _ (World.block_lt_of_cell? _ _ (((HB.out.cell (World.block_lt_of_cell? w _ hw266_0)).trans hw266_0)))).trans (((HB.out.cell (World.block_lt_of_cell? w _ hw266_0)).trans hw266_0)), (World.cell?_alloc_lt _ _ _ (World.block_lt_of_cell? _ _ (((HB.out.cell (World.block_lt_of_cell? w _ hw266_1)).trans hw266_1)))).trans (((HB.out.cell (World.block_lt_of_cell? w _ hw266_1)).trans hw266_1)), (World.cell?_alloc_lt _ _ _ (World.block_lt_of_cell? _ _ (((HB.out.cell (World.block_lt_of_cell? w _ hw266_2)).trans hw266_2)))).trans (((HB.out.cell (World.block_lt_of_cell? w _ hw266_2)).trans hw266_2)), (World.cell?_alloc_lt _ _ _ (World.block_lt_of_cell? _ _ (((HB.out.cell (World.block_lt_of_cell? w _ hw266_3)).trans hw266_3)))).trans (((HB.out.cell (World.block_lt_of_cell? w _ hw266_3)).trans hw266_3)), (World.cell?_alloc_lt _ _ _ (World.block_lt_of_cell? _ _ (((HB.out.cell (World.block_lt_of_cell? w _ hw266_4)).trans hw266_4)))).trans (((HB.out.cell (World.block_lt_of_cell? w _ hw266_4)).trans hw266_4)), (World.cell?_alloc_lt _ _ _ (World.block_lt_of_cell? _ _ (((HB.out.cell (World.block_lt_of_cell? w _ hw266_5)).trans hw266_5)))).trans (((HB.out.cell (World.block_lt_of_cell? w _ hw266_5)).trans hw266_5))⟩ (fun hHeld => ?_)
         clear hK K
         refine norm_ (a' := ?_) ?_ ?_
         rotate_left
         ·show Act.put _ (some 44) _ = _
          simp only [Act.put, sB, i64_w, i32_w]
          rfl
         refine one_ (i := 9) (N := some 45) #[true, true, true, true, true, true, true, true, true, true, false, false] rfl rfl (one_of HT_.out (by kernel_rfl)) (by decide) (fun K hK => ?_)
         refine Kd.S_append_step k61 (w0 := w) w.heap.size (by rfl) (.tmp 37) (.tmp 44) 23 61 (.agg #[(.slice none 0 0), (.slice none 0 0), (.slice none 0 0), (.int .u8 0), (.int .u8 0), (.int .u8 0)]) 80 rfl Try.underlying23 info61 rfl (by decide) (by omega) u262003 x262003_2 (⟨t267, t270, t273, (⟨t276, t277, t278⟩ : S47)⟩ : S61) [.slice Ao33 t267.length co33, .slice Ao34 t270.length co34, .slice Ao35 t273.length co35, .int .u8 t276, .int .u8 t277, .int .u8 t278] (fun _ => True) (fun k_ => some k_ = (.slice Ao33 t267.length co33 : Value).ownBlock ∨ some k_ = (.slice Ao34 t270.length co34 : Value).ownBlock ∨ some k_ = (.slice Ao35 t273.length co35 : Value).ownBlock) rfl rfl ?aP (fun k_ hk_ => hk_.elim (fun h_ => ((Kd.R_mono (ok' := fun k_ => ((fun _ => True)) k_ ∧ some k_ ≠ (u262003 : Value).ownBlock) (Kd.R_apart' (HO269.out) (Kd.S_typed HO_262003.out) (by decide)) (fun k_ hk => ⟨trivial, hk.2⟩))).1 k_ h_.symm) (fun h_ => h_.elim (fun h_ => ((Kd.R_mono (ok' := fun k_ => ((fun _ => True)) k_ ∧ some k_ ≠ (u262003 : Value).ownBlock) (Kd.R_apart' (HO272.out) (Kd.S_typed HO_262003.out) (by decide)) (fun k_ hk => ⟨trivial, hk.2⟩))).1 k_ h_.symm) (fun h_ => ((Kd.R_mono (ok' := fun k_ => ((fun _ => True)) k_ ∧ some k_ ≠ (u262003 : Value).ownBlock) (Kd.R_apart' (HO275.out) (Kd.S_typed HO_262003.out) (by decide)) (fun k_ hk => ⟨trivial, hk.2⟩))).1 k_ h_.symm))) ?aF ?aO ?aB ?aS ?aL ?_
         (case aP => exact k61_mkM _ _ _ (⟨t267, t270, t273, (⟨t276, t277, t278⟩ : S47)⟩ : S61) (Kd.R_mono (Kd.R_tight rfl (Kd.R_mono (ok' := fun k_ => ((fun _ => True)) k_ ∧ some k_ ≠ (u262003 : Value).ownBlock) (Kd.R_apart' (HO269.out) (Kd.S_typed HO_262003.out) (by decide)) (fun k_ hk => ⟨trivial, hk.2⟩))) (fun _ h_ => Or.inl h_)) (Kd.R_mono (Kd.R_tight rfl (Kd.R_mono (ok' := fun k_ => ((fun _ => True)) k_ ∧ some k_ ≠ (u262003 : Value).ownBlock) (Kd.R_apart' (HO272.out) (Kd.S_typed HO_262003.out) (by decide)) (fun k_ hk => ⟨trivial, hk.2⟩))) (fun _ h_ => Or.inr (Or.inl h_))) (Kd.R_mono (Kd.R_tight rfl (Kd.R_mono (ok' := fun k_ => ((fun _ => True)) k_ ∧ some k_ ≠ (u262003 : Value).ownBlock) (Kd.R_apart' (HO275.out) (Kd.S_typed HO_262003.out) (by decide)) (fun k_ hk => ⟨trivial, hk.2⟩))) (fun _ h_ => Or.inr (Or.inr (h_)))))
         (case aB => exact (by repeat (first | (with_reducible first | exact HB.out | apply wa | apply wn | apply wd | refine ws ?_ GE259.out | refine ws ?_ GE260.out | refine ws ?_ GE261.out) | exact HB.out)))
         (case aF => exact (fun _ _ => trivial))
         (case aO => exact (by (with_reducible repeat (first | apply Kd.S_alloc | apply Kd.S_drewN | apply Kd.S_drew)); exact Kd.S_mono HO_262003.out (fun k_ hk => ⟨trivial, fun e_ => e_.elim (fun h_ => hk.1.1.2 h_) (fun h_ => h_.elim (fun h_ => hk.1.2 h_) (fun h_ => hk.2 h_))⟩)))
         (case aS => exact (below_size (by repeat (first | (with_reducible first | exact HB.out | apply wa | apply wn | apply wd | refine ws ?_ GE259.out | refine ws ?_ GE260.out | refine ws ?_ GE261.out) | exact HB.out))))
         (case aL => have := LMc26.out; omega)
         intro v280 w32 ho hb hg hat
         rw [← Ny279.out] at ho
         have n0_ := asd (Kd.R_over' (by (with_reducible repeat (first | apply Kd.R_alloc | apply Kd.R_drewN | apply Kd.R_drew)); exact HO_262002.out) (Kd.S_typed (by (with_reducible repeat (first | apply Kd.S_alloc | apply Kd.S_drewN | apply Kd.S_drew)); exact HO_262003.out)) (by decide) hg)
         have n1_ := asd (blk_grown (g := gb259) (o := .cells #[.int .i64 a0_0, .int .i64 a0_1, .slice A0_2 l0_2.length c0_2, .slice (some ad266) l0_3.length c0_3, .slice A0_4 l0_4.length c0_4] 34 (0, 0)) (by (with_reducible repeat first | apply bn | apply bd | apply ba); exact BK259.out) hg (Kd.S_ne HO_262003.out BK259.out (by decide)))
         have n2_ := asd (blk_grown (g := gb260) (o := .cells #[.int .i64 0, .int .i64 0, .slice none 0 0, .slice none 0 0, .slice none 0 0] 26 (0, 0)) (by (with_reducible repeat first | apply bn | apply bd | apply ba); exact BK260.out) hg (Kd.S_ne HO_262003.out BK260.out (by decide)))
         have n3_ := asd (blk_grown (g := gb261) (o := .cells #[.int .i64 a0_0, .int .i64 a0_1, u262002, u262003, .slice none 0 0] 26 (0, 0)) (by (with_reducible repeat first | apply bn | apply bd | apply ba); exact BK261.out) hg (Kd.S_ne HO_262003.out BK261.out (by decide)))
         have n4_ := asd (hb)
         have n5_ := asd (ho)
         clear HO_262002
         clear BK259
         clear BK260
         clear BK261
         clear HB
         clear HO_262003
         clear HO269
         clear HO272
         clear HO275
         have HO_262002 := n0_
         have BK259 := n1_
         have BK260 := n2_
         have BK261 := n3_
         have HB := n4_
         have HO281 := n5_
         clear n0_ n1_ n2_ n3_ n4_ n5_
         clear ho hb hg hat
         obtain ⟨Ao36, co36, eo36⟩ := Kd.S_slice HO281.out
         (first | subst eo36 | (injection eo36 with f1_ f2_ f3_; have f4_ := f1_.symm; have f5_ := f3_.symm; clear f1_ f2_ f3_; subst f4_; subst f5_))
         refine hK.out _ _ ⟨(blk_cell BK261.out 0).trans rfl, (blk_cell BK261.out 1).trans rfl, (blk_cell BK261.out 2).trans rfl, (blk_cell BK261.out 3).trans rfl, (blk_cell BK261.out 4).trans rfl, (blk_cell BK259.out 0).trans rfl, (blk_cell BK259.out 1).trans rfl, (blk_cell BK259.out 2).trans rfl, (blk_cell BK259.out 3).trans rfl, (blk_cell BK259.out 4).trans rfl, ((HB.out.cell (World.block_lt_of_cell? w _ hw266_0)).trans hw266_0), ((HB.out.cell (World.block_lt_of_cell? w _ hw266_1)).trans hw266_1), ((HB.out.cell (World.block_lt_of_cell? w _ hw266_2)).trans hw266_2), ((HB.out.cell (World.block_lt_of_cell? w _ hw266_3)).trans hw266_3), ((HB.out.cell (World.block_lt_of_cell? w _ hw266_4)).trans hw266_4), ((HB.out.cell (World.block_lt_of_cell? w _ hw266_5)).trans hw266_5)⟩ (fun hHeld => ?_)
         clear hK K
         refine norm_ (a' := ?_) ?_ ?_
         rotate_left
         ·show Act.put _ (some 45) _ = _
          simp only [Act.put, sB, i64_w, i32_w]
          rfl
         refine pure_ (i := 10) (N := some 46) (v := ?_) (a' := ?_) #[true, true, true, true, true, true, true, true, true, true, true, false] rfl rfl (any_of HT_.out (by kernel_rfl)) (fun _ _ _ h => h) (Or.inl ⟨by rfl, ?_⟩) ?_ ?_
         rotate_left
         ·intro w'
          go_simp
          with_reducible rfl
         rotate_left
         ·simp only [Act.put, sB, i64_w, i32_w]
          rfl
         refine last_ (i := 11) (N := none) #[true, true, true, true, true, true, true, true, true, true, true, true] rfl rfl (one_of HT_.out (by kernel_rfl)) (by decide) (fun K hK => ?_)
         have hs37 : w32.cell? ⟨gb261, 3, none⟩ = some (u262003) := (blk_cell BK261.out 3).trans rfl
         have hfs37 := blk_frozen BK261.out 3
         have hns37_0 := NB259_261.out
         have hns37_1 := NB260_261.out
         have hms37_0 := NB261_259.out
         have hms37_1 := NB261_260.out
         refine skip_ (w1 := ?_) (by rfl) rfl ?_ ?_
         rotate_left
         ·go_simp
          rfl
         refine hK.out _ _ ?_
         clear hK K
         refine done_ (done_of HT_.out (by kernel_rfl)) ?_
         try go_wp2
         go_roundg k2
         case measure => have := HK1.out; have := HK2.out; omega
         case rel => exact ⟨(wrap64 (x5_2 + 1)), (y279), (.slice Ao36 y279.length co36), (by first | rfl | (simp; done) | (simp [*]; done)), H', ⟨by have := HK1.out; have := HK2.out; omega⟩, ⟨by (with_reducible repeat (first | apply Kd.R_alloc | apply Kd.R_drewN | apply Kd.R_drew)); exact Kd.R_mono (Kd.R_far (p := ⟨gb261, 3, none⟩) (Kd.R_types HO_262002.out BK261.out (by decide)) (fun _ hk => hk.2) (.slice Ao36 y279.length co36)) (fun _ hk => trivial)⟩, ⟨by (with_reducible repeat (first | apply Kd.S_alloc | apply Kd.S_drewN | apply Kd.S_drew)); exact Kd.S_mono (Kd.S_far (p := ⟨gb261, 3, none⟩) (Kd.S_types HO281.out BK261.out (by decide)) (fun _ hk => hk.2) (.slice Ao36 y279.length co36)) (fun _ hk => trivial)⟩, ⟨by (with_reducible repeat first | apply bn | apply bd | apply ba); refine blk_far ?_ NB259_261.out _; (with_reducible repeat first | apply bn | apply bd | apply ba); exact BK259.out⟩, ⟨by (with_reducible repeat first | apply bn | apply bd | apply ba); refine blk_far ?_ NB260_261.out _; (with_reducible repeat first | apply bn | apply bd | apply ba); exact BK260.out⟩, ⟨by (with_reducible repeat first | apply bn | apply bd | apply ba); refine blk_put (cs := #[.int .i64 a0_0, .int .i64 a0_1, u262002, u262003, .slice none 0 0]) ?_ 3 _ rfl; (with_reducible repeat first | apply bn | apply bd | apply ba); exact BK261.out⟩, ⟨by repeat (first | (with_reducible first | exact HB.out | apply wa | apply wn | apply wd | refine ws ?_ GE259.out | refine ws ?_ GE260.out | refine ws ?_ GE261.out) | exact HB.out)⟩⟩
        ·rw [if_neg c26] at H
         exact absurd H (by simp)
       ·rw [if_neg c24] at H
        exact absurd H (by simp)
      ·rw [if_neg c23] at H
       have c23b0 : decide (x5_2 < (l0_3.length : Int)) = false := decide_eq_false c23
       clear c23
       have H' := asd H
       clear H
       have hnb38 := NB259_260.out
       have hnc38 := NB260_259.out
       have hnb39 := NB259_261.out
       have hnc39 := NB261_259.out
       have hcz40_0 : wr.cell? ⟨gb259, 0, none⟩ = some (.int .i64 a0_0) := (blk_cell BK259.out 0).trans rfl
       have hcz40_1 : wr.cell? ⟨gb259, 1, none⟩ = some (.int .i64 a0_1) := (blk_cell BK259.out 1).trans rfl
       have hcz40_2 : wr.cell? ⟨gb259, 2, none⟩ = some (.slice A0_2 l0_2.length c0_2) := (blk_cell BK259.out 2).trans rfl
       have hcz40_3 : wr.cell? ⟨gb259, 3, none⟩ = some (.slice A0_3 l0_3.length c0_3) := (blk_cell BK259.out 3).trans rfl
       have hcz40_4 : wr.cell? ⟨gb259, 4, none⟩ = some (.slice A0_4 l0_4.length c0_4) := (blk_cell BK259.out 4).trans rfl
       have hfz40_0 := blk_frozen BK259.out 0
       have hfz40_1 := blk_frozen BK259.out 1
       have hfz40_2 := blk_frozen BK259.out 2
       have hfz40_3 := blk_frozen BK259.out 3
       have hfz40_4 := blk_frozen BK259.out 4
       go_wp2
       go_loopg [6] k2 (fun kq v6 w' => ∃ (x6_3 : Int) (x262004_3 : List (S78)) (u262004 : Value), v6 = .int .i64 x6_3 ∧ Aside0 (parcloselaw03_Ref.l2 kq x6_3 a0_0 a0_1 l0_2 l0_3 l0_4 a0_0 a0_1 x262002_1 x262003_2 x262004_3 = some (r1, r2, r3, r4, r5)) ∧ Aside0 (kq ≤ k2) ∧ Aside0 (Kd.R k77 77 w' w.heap.size (fun _ => True) u262002 x262002_1) ∧ Aside0 (Kd.S k61 61 w' w.heap.size (fun _ => True) u262003 x262003_2) ∧ Aside0 (Kd.R k78 78 w' w.heap.size (fun _ => True) u262004 x262004_3) ∧ Aside0 (w'.heap[gb259]? = some (.cells #[.int .i64 a0_0, .int .i64 a0_1, (.slice A0_2 l0_2.length c0_2), (.slice A0_3 l0_3.length c0_3), (.slice A0_4 l0_4.length c0_4)] 34 (0, 0))) ∧ Aside0 (w'.heap[gb260]? = some (.cells #[.int .i64 0, .int .i64 0, (.slice none 0 0), (.slice none 0 0), (.slice none 0 0)] 26 (0, 0))) ∧ Aside0 (w'.heap[gb261]? = some (.cells #[.int .i64 a0_0, .int .i64 a0_1, u262002, u262003, u262004] 26 (0, 0))) ∧ Aside0 (Below w.heap.size w w'))
       case atStart => exact ⟨(0), (([] : List (S78))), (.slice none 0 0), (by first | rfl | (simp; done) | (simp [*]; done)), H', ⟨Nat.le_refl _⟩, ⟨by (with_reducible repeat (first | apply Kd.R_alloc | apply Kd.R_drewN | apply Kd.R_drew)); exact HO_262002.out⟩, ⟨by (with_reducible repeat (first | apply Kd.S_alloc | apply Kd.S_drewN | apply Kd.S_drew)); exact HO_262003.out⟩, ⟨by first | exact Kd.R_nil _ _ _ _ _ | exact Kd.N_nil _ _ _ _ _ | exact Kd.V_nil _ _ _ _ _ | exact Kd.Q_nil _ _ _ _ _ | exact Kd.S_nil _ _ _ _ _⟩, ⟨by (with_reducible repeat first | apply bn | apply bd | apply ba); exact BK259.out⟩, ⟨by (with_reducible repeat first | apply bn | apply bd | apply ba); exact BK260.out⟩, ⟨by (with_reducible repeat first | apply bn | apply bd | apply ba); exact BK261.out⟩, ⟨by repeat (first | (with_reducible first | exact HB.out | apply wa | apply wn | apply wd | refine ws ?_ GE259.out | refine ws ?_ GE260.out | refine ws ?_ GE261.out) | exact HB.out)⟩⟩
       case round =>
        clear H'
        try clear c1
        try clear c2
        try clear p2
        try clear q2
        try clear hx2
        try clear c3
        try clear c4
        try clear c5
        try clear p6
        try clear c7
        try clear c8
        try clear c10
        try clear c10b0
        try clear c11
        try clear c11b0
        try clear c12
        try clear c13
        try clear c14
        try clear c20
        try clear c21
        try clear c23
        try clear c23b0
        try clear c24
        try clear c24b0
        try clear c26
        try clear p26
        try clear q26
        try clear hx26
        try clear c27
        try clear c28
        try clear c38
        try clear c39
        try clear hcz15_0
        try clear hcz15_1
        try clear hcz15_2
        try clear hcz15_3
        try clear hcz15_4
        try clear hcz22_0
        try clear hcz22_1
        try clear hcz22_2
        try clear hcz22_3
        try clear hcz22_4
        try clear hcz29_0
        try clear hcz29_1
        try clear hcz29_2
        try clear hcz29_3
        try clear hcz29_4
        try clear hcz40_0
        try clear hcz40_1
        try clear hcz40_2
        try clear hcz40_3
        try clear hcz40_4
        try clear hcz5_0
        try clear hcz5_1
        try clear hcz5_2
        try clear hcz5_3
        try clear hcz5_4
        try clear hcz9_0
        try clear hcz9_1
        try clear hcz9_2
        try clear hcz9_3
        try clear hcz9_4
        try clear hfz15_0
        try clear hfz15_1
        try clear hfz15_2
        try clear hfz15_3
        try clear hfz15_4
        try clear hfz22_0
        try clear hfz22_1
        try clear hfz22_2
        try clear hfz22_3
        try clear hfz22_4
        try clear hfz29_0
        try clear hfz29_1
        try clear hfz29_2
        try clear hfz29_3
        try clear hfz29_4
        try clear hfz40_0
        try clear hfz40_1
        try clear hfz40_2
        try clear hfz40_3
        try clear hfz40_4
        try clear hfz5_0
        try clear hfz5_1
        try clear hfz5_2
        try clear hfz5_3
        try clear hfz5_4
        try clear hfz9_0
        try clear hfz9_1
        try clear hfz9_2
        try clear hfz9_3
        try clear hfz9_4
        try clear hx262_0
        try clear hx262_1
        try clear hx262_2
        try clear hx266_0
        try clear hx266_1
        try clear hx266_2
        try clear hx266_3
        try clear hx266_4
        try clear hx266_5
        try clear p2
        try clear p262
        try clear p266
        try clear p6
        try clear q2
        try clear q262
        try clear q266
        obtain ⟨x6_3, x262004_3, u262004, rfl, HA, HK3, HO_262002, HO_262003, HO_262004, BK259, BK260, BK261, HB⟩ := hrel
        cases gk with
        | zero => exact absurd HA.out (by simp [parcloselaw03_Ref.l2])
        | succ k3 =>
         have H := HA.out
         clear HA
         simp only [parcloselaw03_Ref.l2] at H
         by_cases c41 : x6_3 < (l0_4.length : Int)
         ·rw [if_pos c41] at H
          have c41b0 : decide (x6_3 < (l0_4.length : Int)) = true := decide_eq_true c41
          clear c41
          by_cases c42 : 0 ≤ x6_3
          ·rw [if_pos c42] at H
           have c42b0 : decide (0 ≤ x6_3) = true := decide_eq_true c42
           clear c42
           by_cases c43 : x262004_3.length < 4398046511104
           ·rw [if_pos c43] at H
            have LMc43 := asd c43
            clear c43
            obtain ⟨y283, hy283⟩ : ∃ y_ : List (S78), y_ = (x262004_3 ++ [(⟨(rd_T44 l0_4 x6_3).f0, (rd_T44 l0_4 x6_3).f1, (rd_T44 l0_4 x6_3).f2, (rd_T44 l0_4 x6_3).f3⟩ : S78)]) := ⟨_, rfl⟩
            replace H : (parcloselaw03_Ref.l2 k3 (wrap64 (x6_3 + 1)) a0_0 a0_1 l0_2 l0_3 l0_4 a0_0 a0_1 x262002_1 x262003_2 y283) = some (r1, r2, r3, r4, r5) := by first | (rw [hy283]; with_reducible exact H) | (have H2_ := (Option.bind_some _ _).symm.trans H; rw [hy283]; with_reducible exact H2_) | (have H2_ := (Option.bind_some _ _).symm.trans H; with_reducible exact H2_) | with_reducible exact H | (rw [hy283]; exact H) | exact H
            have Ny283 := asd hy283
            clear hy283
            have H' := asd H
            clear H
            have hnb44 := NB259_260.out
            have hnc44 := NB260_259.out
            have hnb45 := NB259_261.out
            have hnc45 := NB261_259.out
            have hcz46_0 : wr.cell? ⟨gb259, 0, none⟩ = some (.int .i64 a0_0) := (blk_cell BK259.out 0).trans rfl
            have hcz46_1 : wr.cell? ⟨gb259, 1, none⟩ = some (.int .i64 a0_1) := (blk_cell BK259.out 1).trans rfl
            have hcz46_2 : wr.cell? ⟨gb259, 2, none⟩ = some (.slice A0_2 l0_2.length c0_2) := (blk_cell BK259.out 2).trans rfl
            have hcz46_3 : wr.cell? ⟨gb259, 3, none⟩ = some (.slice A0_3 l0_3.length c0_3) := (blk_cell BK259.out 3).trans rfl
            have hcz46_4 : wr.cell? ⟨gb259, 4, none⟩ = some (.slice A0_4 l0_4.length c0_4) := (blk_cell BK259.out 4).trans rfl
            have hfz46_0 := blk_frozen BK259.out 0
            have hfz46_1 := blk_frozen BK259.out 1
            have hfz46_2 := blk_frozen BK259.out 2
            have hfz46_3 := blk_frozen BK259.out 3
            have hfz46_4 := blk_frozen BK259.out 4
            try go_wp2
            have n0_ := asd (Kd.R_drew HO_262002.out)
            have n1_ := asd (Kd.S_drew HO_262003.out)
            have n2_ := asd (Kd.R_drew HO_262004.out)
            have n3_ := asd (blk_drew BK259.out)
            have n4_ := asd (blk_drew BK260.out)
            have n5_ := asd (blk_drew BK261.out)
            have n6_ := asd (below_drew1 HB.out)
            clear HO_262002
            clear HO_262003
            clear HO_262004
            clear BK259
            clear BK260
            clear BK261
            clear HB
            have HO_262002 := n0_
            have HO_262003 := n1_
            have HO_262004 := n2_
            have BK259 := n3_
            have BK260 := n4_
            have BK261 := n5_
            have HB := n6_
            clear n0_ n1_ n2_ n3_ n4_ n5_ n6_
            have p282 : 0 ≤ (x6_3 : Int) := of_decide_eq_true (by assumption)
            have q282 : x6_3 < (l0_4.length : Int) := of_decide_eq_true (by assumption)
            obtain ⟨ad282, e282, hx282_0, hx282_1, hx282_2, hx282_3⟩ := at_T44 HR0_4.out x6_3 p282 q282
            have hw282_3 := hx282_3
            have hw282_2 := hx282_2
            have hw282_1 := hx282_1
            have hw282_0 := hx282_0
            cases e282
            replace hx282_0 := (HB.out.cell (World.block_lt_of_cell? w _ hx282_0)).trans hx282_0
            replace hx282_1 := (HB.out.cell (World.block_lt_of_cell? w _ hx282_1)).trans hx282_1
            replace hx282_2 := (HB.out.cell (World.block_lt_of_cell? w _ hx282_2)).trans hx282_2
            replace hx282_3 := (HB.out.cell (World.block_lt_of_cell? w _ hx282_3)).trans hx282_3
            replace p282 := eq_true p282
            replace q282 := eq_true q282
            refine start_ (n := 11) (S := fun w' => w'.cell? ⟨gb261, 0, none⟩ = some (.int .i64 a0_0) ∧ w'.cell? ⟨gb261, 1, none⟩ = some (.int .i64 a0_1) ∧ w'.cell? ⟨gb261, 2, none⟩ = some (u262002) ∧ w'.cell? ⟨gb261, 3, none⟩ = some (u262003) ∧ w'.cell? ⟨gb261, 4, none⟩ = some (u262004) ∧ w'.cell? ⟨gb259, 0, none⟩ = some (.int .i64 a0_0) ∧ w'.cell? ⟨gb259, 1, none⟩ = some (.int .i64 a0_1) ∧ w'.cell? ⟨gb259, 2, none⟩ = some (.slice A0_2 l0_2.length c0_2) ∧ w'.cell? ⟨gb259, 3, none⟩ = some (.slice A0_3 l0_3.length c0_3) ∧ w'.cell? ⟨gb259, 4, none⟩ = some (.slice (some ad282) l0_4.length c0_4) ∧ w'.cell? (ad282.add ((x6_3).toNat * 4)) = some (.bool ((rd_T44 l0_4 x6_3).f0)) ∧ w'.cell? ⟨(ad282.add ((x6_3).toNat * 4)).block, (ad282.add ((x6_3).toNat * 4)).off + 1, none⟩ = some (.int .i64 ((rd_T44 l0_4 x6_3).f1)) ∧ w'.cell? ⟨(ad282.add ((x6_3).toNat * 4)).block, (ad282.add ((x6_3).toNat * 4)).off + 2, none⟩ = some (.int .i64 ((rd_T44 l0_4 x6_3).f2)) ∧ w'.cell? ⟨(ad282.add ((x6_3).toNat * 4)).block, (ad282.add ((x6_3).toNat * 4)).off + 3, none⟩ = some (.int .i64 ((rd_T44 l0_4 x6_3).f3))) (ds := [10]) #[false, false, false, false, false, false, false, false, false, false, false] (by kernel_rfl) rfl rfl ⟨(blk_cell BK261.out 0).trans rfl, (blk_cell BK261.out 1).trans rfl, (blk_cell BK261.out 2).trans rfl, (blk_cell BK261.out 3).trans rfl, (blk_cell BK261.out 4).trans rfl, (blk_cell BK259.out 0).trans rfl, (blk_cell BK259.out 1).trans rfl, (blk_cell BK259.out 2).trans rfl, (blk_cell BK259.out 3).trans rfl, (blk_cell BK259.out 4).trans rfl, ((HB.out.cell (World.block_lt_of_cell? w _ hw282_0)).trans hw282_0), ((HB.out.cell (World.block_lt_of_cell? w _ hw282_1)).trans hw282_1), ((HB.out.cell (World.block_lt_of_cell? w _ hw282_2)).trans hw282_2), ((HB.out.cell (World.block_lt_of_cell? w _ hw282_3)).trans hw282_3)⟩ (fun hHeld => ?_); refine with_tabW parcloselaw03_Ref.tab13 parcloselaw03_Ref.bits13 (fun HT_ HW_ => ?_)
            generalize wr.drew = w47 at HO_262002 HO_262003 HO_262004 BK259 BK260 BK261 HB hx282_0 hx282_1 hx282_2 hx282_3 hHeld ⊢
            refine pure_ (i := 0) (N := some 54) (v := ?_) (a' := ?_) #[true, false, false, false, false, false, false, false, false, false, false] rfl rfl (any_of HT_.out (by kernel_rfl)) (fun _ _ _ h => h) (Or.inl ⟨by rfl, ?_⟩) ?_ ?_
            rotate_left
            ·intro w'
             go_simp
             with_reducible rfl
            rotate_left
            ·simp only [Act.put, sB, i64_w, i32_w]
             rfl
            refine pure_ (i := 2) (N := some 56) (v := ?_) (a' := ?_) #[true, false, true, false, false, false, false, false, false, false, false] rfl rfl (any_of HT_.out (by kernel_rfl)) (fun _ _ _ h => h) (Or.inl ⟨by rfl, ?_⟩) ?_ ?_
            rotate_left
            ·intro w'
             go_simp
             with_reducible rfl
            rotate_left
            ·simp only [Act.put, sB, i64_w, i32_w]
             rfl
            refine pure_ (i := 4) (N := some 58) (v := ?_) (a' := ?_) #[true, false, true, false, true, false, false, false, false, false, false] rfl rfl (any_of HT_.out (by kernel_rfl)) (fun _ _ _ h => h) (Or.inl ⟨by rfl, ?_⟩) ?_ ?_
            rotate_left
            ·intro w'
             go_simp
             with_reducible rfl
            rotate_left
            ·simp only [Act.put, sB, i64_w, i32_w]
             rfl
            refine take_ (i := 1) (N := some 55) (v := ?_) (a' := ?_) #[true, true, true, false, true, false, false, false, false, false, false] rfl rfl (take_ofW HT_.out HW_.out (by kernel_rfl)) (fun _ _ _ h => h) (Or.inl ⟨by rfl, ?_⟩) hHeld ?_ ?_
            rotate_left
            ·rintro w' ⟨s0, s1, s2, s3, s4, s5, s6, s7, s8, s9, s10, s11, s12, s13⟩
             go_simp
             with_reducible rfl
            rotate_left
            ·simp only [Act.put, sB, i64_w, i32_w]
             rfl
            refine take_ (i := 3) (N := some 57) (v := ?_) (a' := ?_) #[true, true, true, true, true, false, false, false, false, false, false] rfl rfl (take_ofW HT_.out HW_.out (by kernel_rfl)) (fun _ _ _ h => h) (Or.inl ⟨by rfl, ?_⟩) hHeld ?_ ?_
            rotate_left
            ·rintro w' ⟨s0, s1, s2, s3, s4, s5, s6, s7, s8, s9, s10, s11, s12, s13⟩
             go_simp
             with_reducible rfl
            rotate_left
            ·simp only [Act.put, sB, i64_w, i32_w]
             rfl
            refine pure_ (i := 5) (N := some 59) (v := ?_) (a' := ?_) #[true, true, true, true, true, true, false, false, false, false, false] rfl rfl (any_of HT_.out (by kernel_rfl)) (fun _ _ _ h => h) (Or.inl ⟨by rfl, ?_⟩) ?_ ?_
            rotate_left
            ·intro w'
             go_simp
             with_reducible rfl
            rotate_left
            ·simp only [Act.put, sB, i64_w, i32_w]
             rfl
            refine take_ (i := 6) (N := some 60) (v := ?_) (a' := ?_) #[true, true, true, true, true, true, true, false, false, false, false] rfl rfl (take_ofW HT_.out HW_.out (by kernel_rfl)) (fun _ _ _ h => h) (Or.inl ⟨by rfl, ?_⟩) hHeld ?_ ?_
            rotate_left
            ·rintro w' ⟨s0, s1, s2, s3, s4, s5, s6, s7, s8, s9, s10, s11, s12, s13⟩
             go_simp
             with_reducible rfl
            rotate_left
            ·simp only [Act.put, sB, i64_w, i32_w]
             rfl
            refine one_ (i := 7) (N := some 61) #[true, true, true, true, true, true, true, true, false, false, false] rfl rfl (one_of HT_.out (by kernel_rfl)) (by decide) (fun K hK => ?_)
            refine value_ (w1 := ?_) (v := ?_) (by rfl) rfl ?_ ?_
            rotate_left 2
            ·go_simp
             constructor
             ·rfl
             ·rfl
            refine hK.out _ _ ⟨(blk_cell (blk_alloc BK261.out _) 0).trans rfl, (blk_cell (blk_alloc BK261.out _) 1).trans rfl, (blk_cell (blk_alloc BK261.out _) 2).trans rfl, (blk_cell (blk_alloc BK261.out _) 3).trans rfl, (blk_cell (blk_alloc BK261.out _) 4).trans rfl, (blk_cell (blk_alloc BK259.out _) 0).trans rfl, (blk_cell (blk_alloc BK259.out _) 1).trans rfl, (blk_cell (blk_alloc BK259.out _) 2).trans rfl, (blk_cell (blk_alloc BK259.out _) 3).trans rfl, (blk_cell (blk_alloc BK259.out _) 4).trans rfl, (World.cell?_alloc_lt _ _ _ (World.block_lt_of_cell? _ _ (((HB.out.cell (World.block_lt_of_cell? w _ hw282_0)).trans hw282_0)))).trans (((HB.out.cell (World.block_lt_of_cell? w _ hw282_0)).trans hw282_0)), (World.cell?_alloc_lt _ _ _ (World.block_lt_of_cell? _ _ (((HB.out.cell (World.block_lt_of_cell? w _ hw282_1)).trans hw282_1)))).trans (((HB.out.cell (World.block_lt_of_cell? w _ hw282_1)).trans hw282_1)), (World.cell?_alloc_lt _ _ _ (World.block_lt_of_cell? _ _ (((HB.out.cell (World.block_lt_of_cell? w _ hw282_2)).trans hw282_2)))).trans (((HB.out.cell (World.block_lt_of_cell? w _ hw282_2)).trans hw282_2)), (World.cell?_alloc_lt _ _ _ (World.block_lt_of_cell? _ _ (((HB.out.cell (World.block_lt_of_cell? w _ hw282_3)).trans hw282_3)))).trans (((HB.out.cell (World.block_lt_of_cell? w _ hw282_3)).trans hw282_3))⟩ (fun hHeld => ?_)
            clear hK K
            refine norm_ (a' := ?_) ?_ ?_
            rotate_left
            ·show Act.put _ (some 61) _ = _
             simp only [Act.put, sB, i64_w, i32_w]
             rfl
            refine one_ (i := 8) (N := some 62) #[true, true, true, true, true, true, true, true, true, false, false] rfl rfl (one_of HT_.out (by kernel_rfl)) (by decide) (fun K hK => ?_)
            refine Kd.R_append_step k78 (w0 := w) w.heap.size (by rfl) (.tmp 55) (.tmp 61) 24 78 (.agg #[(.bool false), (.int .i64 0), (.int .i64 0), (.int .i64 0)]) 32 rfl Try.underlying24 info78 rfl (by decide) (by omega) u262004 x262004_3 (⟨(rd_T44 l0_4 x6_3).f0, (rd_T44 l0_4 x6_3).f1, (rd_T44 l0_4 x6_3).f2, (rd_T44 l0_4 x6_3).f3⟩ : S78) [.bool ((rd_T44 l0_4 x6_3).f0), .int .i64 ((rd_T44 l0_4 x6_3).f1), .int .i64 ((rd_T44 l0_4 x6_3).f2), .int .i64 ((rd_T44 l0_4 x6_3).f3)] (fun _ => True) (fun _ => False) rfl rfl ?aP (fun _ hk => hk.elim) ?aF ?aO ?aB ?aS ?aL ?_
            (case aP => exact k78_mkM _ _ _ (⟨(rd_T44 l0_4 x6_3).f0, (rd_T44 l0_4 x6_3).f1, (rd_T44 l0_4 x6_3).f2, (rd_T44 l0_4 x6_3).f3⟩ : S78))
            (case aB => exact (by repeat (first | (with_reducible first | exact HB.out | apply wa | apply wn | apply wd | refine ws ?_ GE259.out | refine ws ?_ GE260.out | refine ws ?_ GE261.out) | exact HB.out)))
            (case aF => exact (fun _ _ => trivial))
            (case aO => exact (by (with_reducible repeat (first | apply Kd.R_alloc | apply Kd.R_drewN | apply Kd.R_drew)); exact HO_262004.out))
            (case aS => exact (below_size (by repeat (first | (with_reducible first | exact HB.out | apply wa | apply wn | apply wd | refine ws ?_ GE259.out | refine ws ?_ GE260.out | refine ws ?_ GE261.out) | exact HB.out))))
            (case aL => have := LMc43.out; omega)
            intro v284 w48 ho hb hg hat
            rw [← Ny283.out] at ho
            have n0_ := asd (Kd.R_over' (by (with_reducible repeat (first | apply Kd.R_alloc | apply Kd.R_drewN | apply Kd.R_drew)); exact HO_262002.out) (Kd.R_typed (by (with_reducible repeat (first | apply Kd.R_alloc | apply Kd.R_drewN | apply Kd.R_drew)); exact HO_262004.out)) (by decide) hg)
            have n1_ := asd (Kd.S_over' (by (with_reducible repeat (first | apply Kd.S_alloc | apply Kd.S_drewN | apply Kd.S_drew)); exact HO_262003.out) (Kd.R_typed (by (with_reducible repeat (first | apply Kd.R_alloc | apply Kd.R_drewN | apply Kd.R_drew)); exact HO_262004.out)) (by decide) hg)
            have n2_ := asd (blk_grown (g := gb259) (o := .cells #[.int .i64 a0_0, .int .i64 a0_1, .slice A0_2 l0_2.length c0_2, .slice A0_3 l0_3.length c0_3, .slice (some ad282) l0_4.length c0_4] 34 (0, 0)) (by (with_reducible repeat first | apply bn | apply bd | apply ba); exact BK259.out) hg (Kd.R_ne HO_262004.out BK259.out (by decide)))
            have n3_ := asd (blk_grown (g := gb260) (o := .cells #[.int .i64 0, .int .i64 0, .slice none 0 0, .slice none 0 0, .slice none 0 0] 26 (0, 0)) (by (with_reducible repeat first | apply bn | apply bd | apply ba); exact BK260.out) hg (Kd.R_ne HO_262004.out BK260.out (by decide)))
            have n4_ := asd (blk_grown (g := gb261) (o := .cells #[.int .i64 a0_0, .int .i64 a0_1, u262002, u262003, u262004] 26 (0, 0)) (by (with_reducible repeat first | apply bn | apply bd | apply ba); exact BK261.out) hg (Kd.R_ne HO_262004.out BK261.out (by decide)))
            have n5_ := asd (hb)
            have n6_ := asd (ho)
            clear HO_262002
            clear HO_262003
            clear BK259
            clear BK260
            clear BK261
            clear HB
            clear HO_262004
            have HO_262002 := n0_
            have HO_262003 := n1_
            have BK259 := n2_
            have BK260 := n3_
            have BK261 := n4_
            have HB := n5_
            have HO285 := n6_
            clear n0_ n1_ n2_ n3_ n4_ n5_ n6_
            clear ho hb hg hat
            obtain ⟨Ao49, co49, eo49⟩ := Kd.R_slice HO285.out
            (first | subst eo49 | (injection eo49 with f1_ f2_ f3_; have f4_ := f1_.symm; have f5_ := f3_.symm; clear f1_ f2_ f3_; subst f4_; subst f5_))
            refine hK.out _ _ ⟨(blk_cell BK261.out 0).trans rfl, (blk_cell BK261.out 1).trans rfl, (blk_cell BK261.out 2).trans rfl, (blk_cell BK261.out 3).trans rfl, (blk_cell BK261.out 4).trans rfl, (blk_cell BK259.out 0).trans rfl, (blk_cell BK259.out 1).trans rfl, (blk_cell BK259.out 2).trans rfl, (blk_cell BK259.out 3).trans rfl, (blk_cell BK259.out 4).trans rfl, ((HB.out.cell (World.block_lt_of_cell? w _ hw282_0)).trans hw282_0), ((HB.out.cell (World.block_lt_of_cell? w _ hw282_1)).trans hw282_1), ((HB.out.cell (World.block_lt_of_cell? w _ hw282_2)).trans hw282_2), ((HB.out.cell (World.block_lt_of_cell? w _ hw282_3)).trans hw282_3)⟩ (fun hHeld => ?_)
            clear hK K
            refine norm_ (a' := ?_) ?_ ?_
            rotate_left
            ·show Act.put _ (some 62) _ = _
             simp only [Act.put, sB, i64_w, i32_w]
             rfl
            refine pure_ (i := 9) (N := some 63) (v := ?_) (a' := ?_) #[true, true, true, true, true, true, true, true, true, true, false] rfl rfl (any_of HT_.out (by kernel_rfl)) (fun _ _ _ h => h) (Or.inl ⟨by rfl, ?_⟩) ?_ ?_
            rotate_left
            ·intro w'
             go_simp
             with_reducible rfl
            rotate_left
            ·simp only [Act.put, sB, i64_w, i32_w]
             rfl
            refine last_ (i := 10) (N := none) #[true, true, true, true, true, true, true, true, true, true, true] rfl rfl (one_of HT_.out (by kernel_rfl)) (by decide) (fun K hK => ?_)
            have hs50 : w48.cell? ⟨gb261, 4, none⟩ = some (u262004) := (blk_cell BK261.out 4).trans rfl
            have hfs50 := blk_frozen BK261.out 4
            have hns50_0 := NB259_261.out
            have hns50_1 := NB260_261.out
            have hms50_0 := NB261_259.out
            have hms50_1 := NB261_260.out
            refine skip_ (w1 := ?_) (by rfl) rfl ?_ ?_
            rotate_left
            ·go_simp
             rfl
            refine hK.out _ _ ?_
            clear hK K
            refine done_ (done_of HT_.out (by kernel_rfl)) ?_
            try go_wp2
            go_roundg k3
            case measure => have := HK1.out; have := HK2.out; have := HK3.out; omega
            case rel => exact ⟨(wrap64 (x6_3 + 1)), (y283), (.slice Ao49 y283.length co49), (by first | rfl | (simp; done) | (simp [*]; done)), H', ⟨by have := HK1.out; have := HK2.out; have := HK3.out; omega⟩, ⟨by (with_reducible repeat (first | apply Kd.R_alloc | apply Kd.R_drewN | apply Kd.R_drew)); exact Kd.R_mono (Kd.R_far (p := ⟨gb261, 4, none⟩) (Kd.R_types HO_262002.out BK261.out (by decide)) (fun _ hk => hk.2) (.slice Ao49 y283.length co49)) (fun _ hk => trivial)⟩, ⟨by (with_reducible repeat (first | apply Kd.S_alloc | apply Kd.S_drewN | apply Kd.S_drew)); exact Kd.S_mono (Kd.S_far (p := ⟨gb261, 4, none⟩) (Kd.S_types HO_262003.out BK261.out (by decide)) (fun _ hk => hk.2) (.slice Ao49 y283.length co49)) (fun _ hk => trivial)⟩, ⟨by (with_reducible repeat (first | apply Kd.R_alloc | apply Kd.R_drewN | apply Kd.R_drew)); exact Kd.R_mono (Kd.R_far (p := ⟨gb261, 4, none⟩) (Kd.R_types HO285.out BK261.out (by decide)) (fun _ hk => hk.2) (.slice Ao49 y283.length co49)) (fun _ hk => trivial)⟩, ⟨by (with_reducible repeat first | apply bn | apply bd | apply ba); refine blk_far ?_ NB259_261.out _; (with_reducible repeat first | apply bn | apply bd | apply ba); exact BK259.out⟩, ⟨by (with_reducible repeat first | apply bn | apply bd | apply ba); refine blk_far ?_ NB260_261.out _; (with_reducible repeat first | apply bn | apply bd | apply ba); exact BK260.out⟩, ⟨by (with_reducible repeat first | apply bn | apply bd | apply ba); refine blk_put (cs := #[.int .i64 a0_0, .int .i64 a0_1, u262002, u262003, u262004]) ?_ 4 _ rfl; (with_reducible repeat first | apply bn | apply bd | apply ba); exact BK261.out⟩, ⟨by repeat (first | (with_reducible first | exact HB.out | apply wa | apply wn | apply wd | refine ws ?_ GE259.out | refine ws ?_ GE260.out | refine ws ?_ GE261.out) | exact HB.out)⟩⟩
           ·rw [if_neg c43] at H
            exact absurd H (by simp)
          ·rw [if_neg c42] at H
           exact absurd H (by simp)
         ·rw [if_neg c41] at H
          have c41b0 : decide (x6_3 < (l0_4.length : Int)) = false := decide_eq_false c41
          clear c41
          simp only [Option.some.injEq, Prod.mk.injEq] at H
          obtain ⟨rfl, rfl, rfl, rfl, rfl⟩ := H
          have hnb51 := NB259_260.out
          have hnc51 := NB260_259.out
          have hnb52 := NB259_261.out
          have hnc52 := NB261_259.out
          have hcz53_0 : wr.cell? ⟨gb259, 0, none⟩ = some (.int .i64 a0_0) := (blk_cell BK259.out 0).trans rfl
          have hcz53_1 : wr.cell? ⟨gb259, 1, none⟩ = some (.int .i64 a0_1) := (blk_cell BK259.out 1).trans rfl
          have hcz53_2 : wr.cell? ⟨gb259, 2, none⟩ = some (.slice A0_2 l0_2.length c0_2) := (blk_cell BK259.out 2).trans rfl
          have hcz53_3 : wr.cell? ⟨gb259, 3, none⟩ = some (.slice A0_3 l0_3.length c0_3) := (blk_cell BK259.out 3).trans rfl
          have hcz53_4 : wr.cell? ⟨gb259, 4, none⟩ = some (.slice A0_4 l0_4.length c0_4) := (blk_cell BK259.out 4).trans rfl
          have hfz53_0 := blk_frozen BK259.out 0
          have hfz53_1 := blk_frozen BK259.out 1
          have hfz53_2 := blk_frozen BK259.out 2
          have hfz53_3 := blk_frozen BK259.out 3
          have hfz53_4 := blk_frozen BK259.out 4
          have hnb54 := NB261_260.out
          have hnc54 := NB260_261.out
          have hcz55_0 : wr.cell? ⟨gb261, 0, none⟩ = some (.int .i64 a0_0) := (blk_cell BK261.out 0).trans rfl
          have hcz55_1 : wr.cell? ⟨gb261, 1, none⟩ = some (.int .i64 a0_1) := (blk_cell BK261.out 1).trans rfl
          have hcz55_2 : wr.cell? ⟨gb261, 2, none⟩ = some (u262002) := (blk_cell BK261.out 2).trans rfl
          have hcz55_3 : wr.cell? ⟨gb261, 3, none⟩ = some (u262003) := (blk_cell BK261.out 3).trans rfl
          have hcz55_4 : wr.cell? ⟨gb261, 4, none⟩ = some (u262004) := (blk_cell BK261.out 4).trans rfl
          have hfz55_0 := blk_frozen BK261.out 0
          have hfz55_1 := blk_frozen BK261.out 1
          have hfz55_2 := blk_frozen BK261.out 2
          have hfz55_3 := blk_frozen BK261.out 3
          have hfz55_4 := blk_frozen BK261.out 4
          have hcz56_0 : wr.cell? ⟨gb260, 0, none⟩ = some (.int .i64 0) := (blk_cell BK260.out 0).trans rfl
          have hcz56_1 : wr.cell? ⟨gb260, 1, none⟩ = some (.int .i64 0) := (blk_cell BK260.out 1).trans rfl
          have hcz56_2 : wr.cell? ⟨gb260, 2, none⟩ = some (.slice none 0 0) := (blk_cell BK260.out 2).trans rfl
          have hcz56_3 : wr.cell? ⟨gb260, 3, none⟩ = some (.slice none 0 0) := (blk_cell BK260.out 3).trans rfl
          have hcz56_4 : wr.cell? ⟨gb260, 4, none⟩ = some (.slice none 0 0) := (blk_cell BK260.out 4).trans rfl
          have hfz56_0 := blk_frozen BK260.out 0
          have hfz56_1 := blk_frozen BK260.out 1
          have hfz56_2 := blk_frozen BK260.out 2
          have hfz56_3 := blk_frozen BK260.out 3
          have hfz56_4 := blk_frozen BK260.out 4
          obtain ⟨Ao57, co57, eo57⟩ := Kd.R_slice HO_262002.out
          subst eo57
          obtain ⟨Ao58, co58, eo58⟩ := Kd.S_slice HO_262003.out
          subst eo58
          obtain ⟨Ao59, co59, eo59⟩ := Kd.R_slice HO_262004.out
          subst eo59
          go_wp2
          refine bodyPost_ret (results_cell_row rfl _ _ gb260 26 #[.int .i64 a0_0, .int .i64 a0_1, .slice Ao57 x262002_1.length co57, .slice Ao58 x262003_2.length co58, .slice Ao59 x262004_3.length co59] (0, 0) _ rfl (by (with_reducible repeat first | apply bn | apply bd | apply ba); refine blk_put (cs := #[.int .i64 a0_0, .int .i64 a0_1, .slice Ao57 x262002_1.length co57, .slice Ao58 x262003_2.length co58, .slice none 0 0]) ?_ 4 _ rfl; (with_reducible repeat first | apply bn | apply bd | apply ba); refine blk_put (cs := #[.int .i64 a0_0, .int .i64 a0_1, .slice Ao57 x262002_1.length co57, .slice none 0 0, .slice none 0 0]) ?_ 3 _ rfl; (with_reducible repeat first | apply bn | apply bd | apply ba); refine blk_put (cs := #[.int .i64 a0_0, .int .i64 a0_1, .slice none 0 0, .slice none 0 0, .slice none 0 0]) ?_ 2 _ rfl; (with_reducible repeat first | apply bn | apply bd | apply ba); refine blk_put (cs := #[.int .i64 a0_0, .int .i64 0, .slice none 0 0, .slice none 0 0, .slice none 0 0]) ?_ 1 _ rfl; (with_reducible repeat first | apply bn | apply bd | apply ba); refine blk_put (cs := #[.int .i64 0, .int .i64 0, .slice none 0 0, .slice none 0 0, .slice none 0 0]) ?_ 0 _ rfl; (with_reducible repeat first | apply bn | apply bd | apply ba); exact BK260.out) Try.underlying26 rfl (by kernel_rfl)) rfl ?_
          exact ⟨_, _, _, by first | rfl | (simp [*] <;> rfl), by (with_reducible repeat (first | apply Kd.R_alloc | apply Kd.R_drewN | apply Kd.R_drew)); exact Kd.R_mono (Kd.R_far (p := ⟨gb260, 4, none⟩) (Kd.R_far (p := ⟨gb260, 3, none⟩) (Kd.R_far (p := ⟨gb260, 2, none⟩) (Kd.R_far (p := ⟨gb260, 1, none⟩) (Kd.R_far (p := ⟨gb260, 0, none⟩) (Kd.R_types HO_262002.out BK260.out (by decide)) (fun _ hk => hk.2) (.int .i64 a0_0)) (fun _ hk => hk.2) (.int .i64 a0_1)) (fun _ hk => hk.2) (.slice Ao57 x262002_1.length co57)) (fun _ hk => hk.2) (.slice Ao58 x262003_2.length co58)) (fun _ hk => hk.2) (.slice Ao59 x262004_3.length co59)) (fun _ hk => trivial), by (with_reducible repeat (first | apply Kd.S_alloc | apply Kd.S_drewN | apply Kd.S_drew)); exact Kd.S_mono (Kd.S_far (p := ⟨gb260, 4, none⟩) (Kd.S_far (p := ⟨gb260, 3, none⟩) (Kd.S_far (p := ⟨gb260, 2, none⟩) (Kd.S_far (p := ⟨gb260, 1, none⟩) (Kd.S_far (p := ⟨gb260, 0, none⟩) (Kd.S_types HO_262003.out BK260.out (by decide)) (fun _ hk => hk.2) (.int .i64 a0_0)) (fun _ hk => hk.2) (.int .i64 a0_1)) (fun _ hk => hk.2) (.slice Ao57 x262002_1.length co57)) (fun _ hk => hk.2) (.slice Ao58 x262003_2.length co58)) (fun _ hk => hk.2) (.slice Ao59 x262004_3.length co59)) (fun _ hk => trivial), by (with_reducible repeat (first | apply Kd.R_alloc | apply Kd.R_drewN | apply Kd.R_drew)); exact Kd.R_mono (Kd.R_far (p := ⟨gb260, 4, none⟩) (Kd.R_far (p := ⟨gb260, 3, none⟩) (Kd.R_far (p := ⟨gb260, 2, none⟩) (Kd.R_far (p := ⟨gb260, 1, none⟩) (Kd.R_far (p := ⟨gb260, 0, none⟩) (Kd.R_types HO_262004.out BK260.out (by decide)) (fun _ hk => hk.2) (.int .i64 a0_0)) (fun _ hk => hk.2) (.int .i64 a0_1)) (fun _ hk => hk.2) (.slice Ao57 x262002_1.length co57)) (fun _ hk => hk.2) (.slice Ao58 x262003_2.length co58)) (fun _ hk => hk.2) (.slice Ao59 x262004_3.length co59)) (fun _ hk => trivial), by repeat (first | (with_reducible first | exact HB.out | apply wa | apply wn | apply wd | refine ws ?_ GE259.out | refine ws ?_ GE260.out | refine ws ?_ GE261.out) | exact HB.out)⟩
end Go.Proofs.Ytmjhnmdmopmfjaa.Fn
namespace Go.Proofs.Ytmjhnmdmopmfjaa.Fn
open Go.RowKit Go.Proofs.YtmjhnmdmopmfjaaW.PrintWords Go.Proofs.YtmjhnmdmopmfjaaW.PrintLast Go.Proofs.YtmjhnmdmopmfjaaW.PrintMore
set_option linter.unusedVariables false
set_option linter.unusedSimpArgs false
section
variable (k : Nat) (a0_0 a0_1 : Int) (A0_2 : Option Addr) (c0_2 : Nat) (l0_2 : List S77) (A0_3 : Option Addr) (c0_3 : Nat) (l0_3 : List S61) (A0_4 : Option Addr) (c0_4 : Nat) (l0_4 : List S78)
set_option maxHeartbeats 8000000 in
set_option maxRecDepth 100000 in
theorem apart_dark (w : World) (hr0_2 : Kd.C k77 w A0_2 l0_2.length l0_2) (hc0_2 : l0_2.length ≤ c0_2) (hr0_3 : Kd.C k61 w A0_3 l0_3.length l0_3) (hc0_3 : l0_3.length ≤ c0_3) (hr0_4 : Kd.C k78 w A0_4 l0_4.length l0_4) (hc0_4 : l0_4.length ≤ c0_4) (hl : parcloselaw03_Light.f k a0_0 a0_1 l0_2 l0_3 l0_4 = some false) (hk : parcloselaw03_knows.f k = some true) :
  Calls Try.prog 4 #[.agg #[.int .i64 a0_0, .int .i64 a0_1, .slice A0_2 l0_2.length c0_2, .slice A0_3 l0_3.length c0_3, .slice A0_4 l0_4.length c0_4]] w fun e w' => e = .returned (.bool true) ∧ Below w.heap.size w w' := by
 have hu26 := Try.underlying26
 have hu34 := Try.underlying34
 have H2 := asd hr0_2
 have H3 := asd hr0_3
 have H4 := asd hr0_4
 have C2 := asd hc0_2
 have C3 := asd hc0_3
 have C4 := asd hc0_4
 have HL := asd hl
 have HK := asd hk
 clear hr0_2 hr0_3 hr0_4 hc0_2 hc0_3 hc0_4 hl hk
 go_enter Try.func4, Try.ntmps4
 go_wp2_with fail
 refine (parcloselaw03_Light.calls k a0_0 a0_1 _ _ l0_2 _ _ l0_3 _ _ l0_4 false _ ?s1 ?s2 ?s3 ?s4 ?s5 ?s6 HL.out).mono ?_
 case s1 => exact Kd.C_alloc H2.out _
 case s2 => exact C2.out
 case s3 => exact Kd.C_alloc H3.out _
 case s4 => exact C3.out
 case s5 => exact Kd.C_alloc H4.out _
 case s6 => exact C4.out
 rintro e w1 ⟨rfl, hb⟩
 have HB := asd (below_then (below_alloc (Below.refl _ _) _) (by simp) hb : Below w.heap.size w w1)
 clear hb
 go_wp2_with fail
 refine (parcloselaw03_knows.calls k true _ HK.out).mono ?_
 rintro e w2 ⟨rfl, hb⟩
 have HB2 := asd (below_step HB.out hb)
 clear hb
 go_wp2
 go_ret
 exact ⟨rfl, HB2.out⟩
set_option maxHeartbeats 8000000 in
set_option maxRecDepth 100000 in
theorem apart_light (w : World) (hr0_2 : Kd.C k77 w A0_2 l0_2.length l0_2) (hc0_2 : l0_2.length ≤ c0_2) (hr0_3 : Kd.C k61 w A0_3 l0_3.length l0_3) (hc0_3 : l0_3.length ≤ c0_3) (hr0_4 : Kd.C k78 w A0_4 l0_4.length l0_4) (hc0_4 : l0_4.length ≤ c0_4) (hl : parcloselaw03_Light.f k a0_0 a0_1 l0_2 l0_3 l0_4 = some true) (hk : parcloselaw03_knows.f k = some true)
  (x0 x1 : Int) (x2 : List S42) (x3 : List S49) (x4 : List S44) (hx : parcloselaw03_Config.f k a0_0 a0_1 l0_2 l0_3 l0_4 = some (x0, x1, x2, x3, x4))
  (y0 y1 : Int) (y2 : List S42) (y3 : List S49) (y4 : List S44) (hy : conf_Clone.f k x0 x1 x2 x3 x4 = some (y0, y1, y2, y3, y4))
  (z0 z1 : Int) (z2 : List S77) (z3 : List S61) (z4 : List S78) (hz : parcloselaw03_Ref.f k y0 y1 y2 y3 y4 = some (z0, z1, z2, z3, z4)) (hs : parcloseref03_Same.f k z0 z1 z2 z3 z4 a0_0 a0_1 l0_2 l0_3 l0_4 = some true)
  (n2 : x2.length ≤ 1000) (n3 : x3.length ≤ 1000) (n4 : x4.length ≤ 1000) (n5 : ∀ p ∈ x3, p.f0.length ≤ 1000 ∧ p.f1.length ≤ 1000 ∧ p.f2.length ≤ 1000) :
  Calls Try.prog 4 #[.agg #[.int .i64 a0_0, .int .i64 a0_1, .slice A0_2 l0_2.length c0_2, .slice A0_3 l0_3.length c0_3, .slice A0_4 l0_4.length c0_4]] w fun e w' => e = .returned (.bool true) ∧ Below w.heap.size w w' := by
 have hu26 := Try.underlying26
 have hu34 := Try.underlying34
 have H2 := asd hr0_2
 have H3 := asd hr0_3
 have H4 := asd hr0_4
 have C2 := asd hc0_2
 have C3 := asd hc0_3
 have C4 := asd hc0_4
 have HL := asd hl
 have HK := asd hk
 have HX := asd hx
 have HY := asd hy
 have HZ := asd hz
 have HS := asd hs
 have N2 := asd n2
 have N3 := asd n3
 have N4 := asd n4
 have N5 := asd n5
 clear hr0_2 hr0_3 hr0_4 hc0_2 hc0_3 hc0_4 hl hk hx hy hz hs n2 n3 n4 n5
 have X0 := asd (heap_alloc_new w (.cells #[Value.int .i64 a0_0, .int .i64 a0_1, .slice A0_2 l0_2.length c0_2, .slice A0_3 l0_3.length c0_3, .slice A0_4 l0_4.length c0_4] 26))
 go_enter Try.func4, Try.ntmps4
 go_wp2_with fail
 refine (parcloselaw03_Light.calls k a0_0 a0_1 _ _ l0_2 _ _ l0_3 _ _ l0_4 true _ ?s1 ?s2 ?s3 ?s4 ?s5 ?s6 HL.out).mono ?_
 case s1 => exact Kd.C_alloc H2.out _
 case s2 => exact C2.out
 case s3 => exact Kd.C_alloc H3.out _
 case s4 => exact C3.out
 case s5 => exact Kd.C_alloc H4.out _
 case s6 => exact C4.out
 rintro e w1 ⟨rfl, hb⟩
 have HB := asd (below_then (below_alloc (Below.refl _ _) _) (by simp) hb : Below w.heap.size w w1)
 have X1 := asd (blk_below X0.out hb)
 clear hb X0
 go_wp2_with fail
 refine (parcloselaw03_knows.calls k true _ HK.out).mono ?_
 rintro e w2 ⟨rfl, hb⟩
 have HB2 := asd (below_step HB.out hb)
 have X2 := asd (blk_below X1.out hb)
 clear hb HB X1
 have hx0 := (blk_cell X2.out 0).trans rfl
 have hx1 := (blk_cell X2.out 1).trans rfl
 have hx2 := (blk_cell X2.out 2).trans rfl
 have hx3 := (blk_cell X2.out 3).trans rfl
 have hx4 := (blk_cell X2.out 4).trans rfl
 go_wp2_with fail
 refine (parcloselaw03_Config.calls k a0_0 a0_1 _ _ l0_2 _ _ l0_3 _ _ l0_4 x0 x1 x2 x3 x4 _ ?s1 ?s2 ?s3 ?s4 ?s5 ?s6 HX.out).mono ?_
 case s1 => exact Kd.C_below H2.out HB2.out
 case s2 => exact C2.out
 case s3 => exact Kd.C_below H3.out HB2.out
 case s4 => exact C3.out
 case s5 => exact Kd.C_below H4.out HB2.out
 case s6 => exact C4.out
 rintro e w3 ⟨v2, v3, v4, rfl, r2, r3, r4, hb⟩
 have HB3 := asd (below_step HB2.out hb)
 have X3 := asd (blk_below X2.out hb)
 have LT3 := asd (below_size HB2.out : w.heap.size ≤ w2.heap.size)
 have LT2 := asd (blk_lt X2.out)
 clear hb HB2 X2 hx0 hx1 hx2 hx3 hx4
 obtain ⟨B2, d2, rfl⟩ := Kd.R_slice r2
 obtain ⟨B3, d3, rfl⟩ := Kd.S_slice r3
 obtain ⟨B4, d4, rfl⟩ := Kd.R_slice r4
 have R2 := asd r2
 have R3 := asd (Kd.S_R r3)
 have R4 := asd r4
 clear r2 r3 r4
 go_wp2_with fail
 have XB := asd (heap_alloc_new w3 (.cells #[Value.int .i64 x0, .int .i64 x1, .slice B2 x2.length d2, .slice B3 x3.length d3, .slice B4 x4.length d4] 34))
 refine (conf_Clone.calls k x0 x1 _ _ x2 _ _ x3 _ _ x4 y0 y1 y2 y3 y4 _ ?s1 ?s2 ?s3 ?s4 ?s5 ?s6 HY.out).mono ?_
 case s1 => exact Kd.C_alloc (Kd.R_reads' R2.out).2.2 _
 case s2 => exact (Kd.R_reads' R2.out).2.1
 case s3 => exact Kd.C_alloc (Kd.R_reads' R3.out).2.2 _
 case s4 => exact (Kd.R_reads' R3.out).2.1
 case s5 => exact Kd.C_alloc (Kd.R_reads' R4.out).2.2 _
 case s6 => exact (Kd.R_reads' R4.out).2.1
 rintro e w5 ⟨u2, u3, u4, rfl, q2, q3, q4, hb⟩
 rw [show (w3.alloc (.cells #[Value.int .i64 x0, .int .i64 x1, .slice B2 x2.length d2, .slice B3 x3.length d3, .slice B4 x4.length d4] 34)).heap.size = w3.heap.size + 1 by simp] at q2 q3 q4
 obtain ⟨E2, e2, rfl⟩ := Kd.R_slice q2
 obtain ⟨E3, e3, rfl⟩ := Kd.S_slice q3
 obtain ⟨E4, e4, rfl⟩ := Kd.R_slice q4
 have Q2 := asd q2
 have Q3 := asd (Kd.S_R q3)
 have Q4 := asd q4
 have BW3 : Below w3.heap.size w3 w5 := below_then (below_alloc (Below.refl _ _) _) (by simp) hb
 have X5 := blk_below XB.out hb
 have LT5 := asd (by have := blk_lt X5; omega : w3.heap.size + 1 ≤ w5.heap.size)
 clear q2 q3 q4 hb XB
 obtain ⟨W, hW⟩ : ∃ W, W = w5.alloc (.cells #[Value.int .i64 y0, .int .i64 y1, .slice E2 y2.length e2, .slice E3 y3.length e3, .slice E4 y4.length e4] 34) := ⟨_, rfl⟩
 have SY : Aside0 (W.heap[w5.heap.size]? = some (.cells #[Value.int .i64 y0, .int .i64 y1, .slice E2 y2.length e2, .slice E3 y3.length e3, .slice E4 y4.length e4] 34 (0, 0))) := ⟨by rw [hW]; exact heap_alloc_new w5 _⟩
 have W5 : Below w5.heap.size w5 W := by rw [hW]; exact below_alloc (Below.refl _ _) _
 have LW : Aside0 (Below w3.heap.size w3 W) := ⟨by rw [hW]; exact below_alloc BW3 _⟩
 have SX := asd (blk_below X5 W5)
 have SC := asd (blk_below X3.out LW.out)
 have HB : Aside0 (Below w.heap.size w W) := ⟨below_step HB3.out LW.out⟩
 have LK : Aside0 (Like w2.heap.size (w3.heap.size + 1) W W) := ⟨Like.refl _ _ _⟩
 have WS : Aside0 (W.heap.size = w5.heap.size + 1) := ⟨by rw [hW]; simp⟩
 have WB := asd W5
 clear X5 BW3 W5 HB3 X3
 go_wp2
 rw [← hW]
 clear hW
 go_loopw [5] (fun v wr => ∃ x : Int, v = .int .i64 x ∧ Aside0 (0 ≤ x ∧ x ≤ 1000) ∧ Aside0 (Like w2.heap.size (w3.heap.size + 1) W wr) ∧ Aside0 (Below w.heap.size w wr)) (fun v _ => x2.length - (intOf v).toNat)
 case atStart => exact ⟨0, rfl, ⟨by omega, by omega⟩, LK, HB⟩
 case round =>
  obtain ⟨x, rfl, HQ, LKr, HBr⟩ := hrel
  clear LK HB
  have LK := LKr
  have HB := HBr
  clear LKr HBr
  obtain ⟨h0, h9⟩ := HQ.out
  have hX2 := (LK.out.box SX.out 2 rfl)
  have hX3 := (LK.out.box SX.out 3 rfl)
  have hX4 := (LK.out.box SX.out 4 rfl)
  by_cases hlt : x < (x2.length : Int)
  ·have p1 : (0 ≤ x) = True := eq_true h0
   have q1 : (x < (x2.length : Int)) = True := eq_true hlt
   obtain ⟨ad, cap, cc, hv, hsn, hM, hsp⟩ := row_spots R2.out (Nat.le_succ _) LW.out z42 x h0 (by omega)
   injection hv with ha _ hc
   subst ha hc
   obtain rfl := k42_openM hM
   have s0 : Spot w2.heap.size (w3.heap.size + 1) W (ad.add (x.toNat * 3)) _ := hsp 0 _ rfl
   obtain ⟨u0, hu0, hl0, hf0⟩ := LK.out.at s0
   obtain ⟨b0, rfl⟩ := like_int hl0
   have S0 := asd s0
   clear s0 hl0
   have s1 : Spot w2.heap.size (w3.heap.size + 1) W ⟨(ad.add (x.toNat * 3)).block, (ad.add (x.toNat * 3)).off + 1, none⟩ _ := (add_off hsn _ _) ▸ hsp 1 _ rfl
   obtain ⟨u1, hu1, hl1, hf1⟩ := LK.out.at s1
   obtain ⟨b1, rfl⟩ := like_int hl1
   clear s1 hl1
   clear hM hsp
   go_wp2
   go_region
   go_wp2
   go_roundw
   case rel => exact ⟨x + 1, rfl, ⟨by omega, by have := N2.out; omega⟩, ⟨(LK.out.put S0.out (.inr (.inl ⟨_, _, rfl, rfl⟩))).drew⟩, ⟨below_drew (below_spot S0.out LT3.out HB.out)⟩⟩
   case measure => simp [intOf]; omega
  ·have hq : decide (x < (x2.length : Int)) = false := decide_eq_false hlt
   clear hlt HQ h0 h9
   go_wp2
   obtain ⟨wo, rfl⟩ : ∃ wo : World, wo = wr := ⟨_, rfl⟩
   clear hX2 hX3 hX4
   go_loopw [6] (fun v wr => ∃ x : Int, v = .int .i64 x ∧ Aside0 (0 ≤ x ∧ x ≤ 1000) ∧ Aside0 (Like w2.heap.size (w3.heap.size + 1) W wr) ∧ Aside0 (Below w.heap.size w wr)) (fun v _ => x4.length - (intOf v).toNat)
   case atStart => exact ⟨0, rfl, ⟨by omega, by omega⟩, LK, HB⟩
   case round =>
    obtain ⟨x, rfl, HQ, LKr, HBr⟩ := hrel
    clear LK HB
    have LK := LKr
    have HB := HBr
    clear LKr HBr
    obtain ⟨h0, h9⟩ := HQ.out
    have hX2 := (LK.out.box SX.out 2 rfl)
    have hX3 := (LK.out.box SX.out 3 rfl)
    have hX4 := (LK.out.box SX.out 4 rfl)
    by_cases hlt : x < (x4.length : Int)
    ·have p1 : (0 ≤ x) = True := eq_true h0
     have q1 : (x < (x4.length : Int)) = True := eq_true hlt
     obtain ⟨ad, cap, cc, hv, hsn, hM, hsp⟩ := row_spots R4.out (Nat.le_succ _) LW.out z44 x h0 (by omega)
     injection hv with ha _ hc
     subst ha hc
     obtain rfl := k44_openM hM
     have s0 : Spot w2.heap.size (w3.heap.size + 1) W (ad.add (x.toNat * 4)) _ := hsp 0 _ rfl
     obtain ⟨u0, hu0, hl0, hf0⟩ := LK.out.at s0
     obtain ⟨b0, rfl⟩ := like_bool hl0
     have S0 := asd s0
     clear s0 hl0
     clear hM hsp
     go_wp2
     go_region
     go_wp2
     go_roundw
     case rel => exact ⟨x + 1, rfl, ⟨by omega, by have := N4.out; omega⟩, ⟨(LK.out.put S0.out (.inr (.inr ⟨_, _, rfl, rfl⟩))).drew⟩, ⟨below_drew (below_spot S0.out LT3.out HB.out)⟩⟩
     case measure => simp [intOf]; omega
    ·have hq : decide (x < (x4.length : Int)) = false := decide_eq_false hlt
     clear hlt HQ h0 h9
     go_wp2
     obtain ⟨wo2, rfl⟩ : ∃ wo : World, wo = wr := ⟨_, rfl⟩
     clear hX2 hX3 hX4 hq
     go_loopw [7] (fun v wr => ∃ x : Int, v = .int .i64 x ∧ Aside0 (0 ≤ x ∧ x ≤ 1000) ∧ Aside0 (Like w2.heap.size (w3.heap.size + 1) W wr) ∧ Aside0 (Below w.heap.size w wr)) (fun v _ => x3.length - (intOf v).toNat)
     case atStart => exact ⟨0, rfl, ⟨by omega, by omega⟩, LK, HB⟩
     case round =>
      obtain ⟨x, rfl, HQ, LKr, HBr⟩ := hrel
      clear LK HB
      have LK := LKr
      have HB := HBr
      clear LKr HBr
      obtain ⟨h0, h9⟩ := HQ.out
      have hX3 := (LK.out.box SX.out 3 rfl)
      by_cases hlt : x < (x3.length : Int)
      ·have p1 : (0 ≤ x) = True := eq_true h0
       have q1 : (x < (x3.length : Int)) = True := eq_true hlt
       obtain ⟨ad, cap, cc, hv, hsn, hM, hsp⟩ := row_spots R3.out (Nat.le_succ _) LW.out z49 x h0 (by omega)
       have NE : Aside0 ((x3.getD x.toNat z49).f0.length ≤ 1000 ∧ (x3.getD x.toNat z49).f1.length ≤ 1000 ∧ (x3.getD x.toNat z49).f2.length ≤ 1000) := ⟨by
        have hl : x.toNat < x3.length := by omega
        rw [show x3.getD x.toNat z49 = x3[x.toNat] by simp [List.getD, hl]]
        exact N5.out _ (List.getElem_mem hl)⟩
       generalize x3.getD x.toNat z49 = e at hM NE
       injection hv with ha _ hc
       subst ha hc
       obtain ⟨v0, v1, v2, rfl, m0, m1, m2⟩ := k49_openM hM
       obtain ⟨T0, t0, rfl⟩ := Kd.R_slice m0
       obtain ⟨T1, t1, rfl⟩ := Kd.R_slice m1
       obtain ⟨T2, t2, rfl⟩ := Kd.R_slice m2
       have M0 := asd m0
       have M1 := asd m1
       have M2 := asd m2
       have s0 : Spot w2.heap.size (w3.heap.size + 1) W (ad.add (x.toNat * 6)) _ := hsp 0 _ rfl
       have S0 := asd s0
       clear s0
       have s1 : Spot w2.heap.size (w3.heap.size + 1) W ⟨(ad.add (x.toNat * 6)).block, (ad.add (x.toNat * 6)).off + 1, none⟩ _ := (add_off hsn _ _) ▸ hsp 1 _ rfl
       have S1 := asd s1
       clear s1
       have s2 : Spot w2.heap.size (w3.heap.size + 1) W ⟨(ad.add (x.toNat * 6)).block, (ad.add (x.toNat * 6)).off + 2, none⟩ _ := (add_off hsn _ _) ▸ hsp 2 _ rfl
       have S2 := asd s2
       clear s2
       clear hM hsp m0 m1 m2
       have NX := asd (show x + 1 ≤ 1000 by have := N3.out; omega)
       obtain ⟨uu0, hO0, hol0, _⟩ := LK.out.at S0.out
       obtain rfl := like_slice hol0
       clear hol0
       obtain ⟨uu1, hO1, hol1, _⟩ := LK.out.at S1.out
       obtain rfl := like_slice hol1
       clear hol1
       obtain ⟨uu2, hO2, hol2, _⟩ := LK.out.at S2.out
       obtain rfl := like_slice hol2
       clear hol2
       go_wp2
       clear hX3 hO0 hO1 hO2
       go_loopw [8] (fun v wr => ∃ x : Int, v = .int .i64 x ∧ Aside0 (0 ≤ x ∧ x ≤ 1000) ∧ Aside0 (Like w2.heap.size (w3.heap.size + 1) W wr) ∧ Aside0 (Below w.heap.size w wr)) (fun v _ => e.f0.length - (intOf v).toNat)
       case atStart => exact ⟨0, rfl, ⟨by omega, by omega⟩, LK, HB⟩
       case round =>
        obtain ⟨y, rfl, HQ2, LKr, HBr⟩ := hrel
        clear LK HB
        have LK := LKr
        have HB := HBr
        clear LKr HBr
        obtain ⟨g0, g9⟩ := HQ2.out
        have hX3 := (LK.out.box SX.out 3 rfl)
        obtain ⟨uu0, hO0, hol0, _⟩ := LK.out.at S0.out
        obtain rfl := like_slice hol0
        clear hol0
        obtain ⟨uu1, hO1, hol1, _⟩ := LK.out.at S1.out
        obtain rfl := like_slice hol1
        clear hol1
        obtain ⟨uu2, hO2, hol2, _⟩ := LK.out.at S2.out
        obtain rfl := like_slice hol2
        clear hol2
        by_cases hlt2 : y < (e.f0.length : Int)
        ·have p2 : (0 ≤ y) = True := eq_true g0
         have q2 : (y < (e.f0.length : Int)) = True := eq_true hlt2
         obtain ⟨ad2, cap2, cc2, hv2, hsn2, hM2, hsp2⟩ := row_spots M0.out (Nat.le_succ _) LW.out z51 y g0 (by omega)
         injection hv2 with ha2 _ hc2
         subst ha2 hc2
         obtain rfl := k51_openM hM2
         have s0 : Spot w2.heap.size (w3.heap.size + 1) W (ad2.add (y.toNat * 6)) _ := hsp2 0 _ rfl
         obtain ⟨u0, hu0, hl0, hf0⟩ := LK.out.at s0
         obtain ⟨b0, rfl⟩ := like_bool hl0
         have SS := asd s0
         clear s0 hl0 hM2 hsp2
         go_wp2
         go_region
         go_wp2
         go_roundw
         case rel => exact ⟨y + 1, rfl, ⟨by omega, by have := NE.out; omega⟩, ⟨(LK.out.put SS.out (.inr (.inr ⟨_, _, rfl, rfl⟩))).drew⟩, ⟨below_drew (below_spot SS.out LT3.out HB.out)⟩⟩
         case measure => simp [intOf]; omega
        ·have hq2 : decide (y < (e.f0.length : Int)) = false := decide_eq_false hlt2
         clear hlt2 HQ2 g0 g9
         go_wp2
         clear hX3 hO0 hO1 hO2
         go_loopw [9] (fun v wr => ∃ x : Int, v = .int .i64 x ∧ Aside0 (0 ≤ x ∧ x ≤ 1000) ∧ Aside0 (Like w2.heap.size (w3.heap.size + 1) W wr) ∧ Aside0 (Below w.heap.size w wr)) (fun v _ => e.f1.length - (intOf v).toNat)
         case atStart => exact ⟨0, rfl, ⟨by omega, by omega⟩, LK, HB⟩
         case round =>
          obtain ⟨y, rfl, HQ2, LKr, HBr⟩ := hrel
          clear LK HB
          have LK := LKr
          have HB := HBr
          clear LKr HBr
          obtain ⟨g0, g9⟩ := HQ2.out
          have hX3 := (LK.out.box SX.out 3 rfl)
          obtain ⟨uu0, hO0, hol0, _⟩ := LK.out.at S0.out
          obtain rfl := like_slice hol0
          clear hol0
          obtain ⟨uu1, hO1, hol1, _⟩ := LK.out.at S1.out
          obtain rfl := like_slice hol1
          clear hol1
          obtain ⟨uu2, hO2, hol2, _⟩ := LK.out.at S2.out
          obtain rfl := like_slice hol2
          clear hol2
          by_cases hlt2 : y < (e.f1.length : Int)
          ·have p2 : (0 ≤ y) = True := eq_true g0
           have q2 : (y < (e.f1.length : Int)) = True := eq_true hlt2
           obtain ⟨ad2, cap2, cc2, hv2, hsn2, hM2, hsp2⟩ := row_spots M1.out (Nat.le_succ _) LW.out z53 y g0 (by omega)
           injection hv2 with ha2 _ hc2
           subst ha2 hc2
           obtain rfl := k53_openM hM2
           have s0 : Spot w2.heap.size (w3.heap.size + 1) W (ad2.add (y.toNat * 3)) _ := hsp2 0 _ rfl
           obtain ⟨u0, hu0, hl0, hf0⟩ := LK.out.at s0
           obtain ⟨b0, rfl⟩ := like_bool hl0
           have SS := asd s0
           clear s0 hl0 hM2 hsp2
           go_wp2
           go_region
           go_wp2
           go_roundw
           case rel => exact ⟨y + 1, rfl, ⟨by omega, by have := NE.out; omega⟩, ⟨(LK.out.put SS.out (.inr (.inr ⟨_, _, rfl, rfl⟩))).drew⟩, ⟨below_drew (below_spot SS.out LT3.out HB.out)⟩⟩
           case measure => simp [intOf]; omega
          ·have hq2 : decide (y < (e.f1.length : Int)) = false := decide_eq_false hlt2
           clear hlt2 HQ2 g0 g9
           go_wp2
           clear hX3 hO0 hO1 hO2
           go_loopw [10] (fun v wr => ∃ x : Int, v = .int .i64 x ∧ Aside0 (0 ≤ x ∧ x ≤ 1000) ∧ Aside0 (Like w2.heap.size (w3.heap.size + 1) W wr) ∧ Aside0 (Below w.heap.size w wr)) (fun v _ => e.f2.length - (intOf v).toNat)
           case atStart => exact ⟨0, rfl, ⟨by omega, by omega⟩, LK, HB⟩
           case round =>
            obtain ⟨y, rfl, HQ2, LKr, HBr⟩ := hrel
            clear LK HB
            have LK := LKr
            have HB := HBr
            clear LKr HBr
            obtain ⟨g0, g9⟩ := HQ2.out
            have hX3 := (LK.out.box SX.out 3 rfl)
            obtain ⟨uu0, hO0, hol0, _⟩ := LK.out.at S0.out
            obtain rfl := like_slice hol0
            clear hol0
            obtain ⟨uu1, hO1, hol1, _⟩ := LK.out.at S1.out
            obtain rfl := like_slice hol1
            clear hol1
            obtain ⟨uu2, hO2, hol2, _⟩ := LK.out.at S2.out
            obtain rfl := like_slice hol2
            clear hol2
            by_cases hlt2 : y < (e.f2.length : Int)
            ·have p2 : (0 ≤ y) = True := eq_true g0
             have q2 : (y < (e.f2.length : Int)) = True := eq_true hlt2
             obtain ⟨ad2, cap2, cc2, hv2, hsn2, hM2, hsp2⟩ := row_spots M2.out (Nat.le_succ _) LW.out 0 y g0 (by omega)
             injection hv2 with ha2 _ hc2
             subst ha2 hc2
             have ee : cc2 = [.int .i64 (e.f2.getD y.toNat 0)] := hM2
             subst ee
             have s0 : Spot w2.heap.size (w3.heap.size + 1) W (ad2.add y.toNat) (.int .i64 (e.f2.getD y.toNat 0)) := by have h := hsp2 0 (.int .i64 (e.f2.getD y.toNat 0)) rfl; rwa [show y.toNat * (Kd.int .i64).sz + 0 = y.toNat from Nat.mul_one _] at h
             obtain ⟨u0, hu0, hl0, hf0⟩ := LK.out.at s0
             obtain ⟨b0, rfl⟩ := like_int hl0
             have SS := asd s0
             clear s0 hl0 hM2 hsp2
             go_wp2
             go_roundw
             case rel => exact ⟨y + 1, rfl, ⟨by omega, by have := NE.out; omega⟩, ⟨(LK.out.put SS.out (.inr (.inl ⟨_, _, rfl, rfl⟩)))⟩, ⟨(below_spot SS.out LT3.out HB.out)⟩⟩
             case measure => simp [intOf]; omega
            ·have hq2 : decide (y < (e.f2.length : Int)) = false := decide_eq_false hlt2
             clear hlt2 HQ2 g0 g9
             go_wp2
             go_roundw
             case rel => exact ⟨x + 1, rfl, ⟨by omega, NX.out⟩, LK, HB⟩
             case measure => simp [intOf]; omega
      ·have hq : decide (x < (x3.length : Int)) = false := decide_eq_false hlt
       clear hlt HQ h0 h9
       go_wp2
       have hY := (LK.out.far w5.heap.size (by rw [WS.out]; omega) (.inr LT5.out)).trans SY.out
       have hC := (LK.out.far w.heap.size (blk_lt SC.out) (.inl LT2.out)).trans SC.out
       have mv : ∀ k', w3.heap.size + 1 ≤ k' → k' < w5.heap.size → wr.heap[k']? = w5.heap[k']? := fun k' h1 h2 => (LK.out.far k' (by rw [WS.out]; omega) (.inr h1)).trans (WB.out.block k' h2)
       have YC2 := asd (Kd.R_reads' (Kd.R_move (Kd.R_bound Q2.out) (fun k' hk => mv k' hk.2.1 hk.2.2.1))).2
       have YC3 := asd (Kd.R_reads' (Kd.R_move (Kd.R_bound Q3.out) (fun k' hk => mv k' hk.2.1 hk.2.2.1))).2
       have YC4 := asd (Kd.R_reads' (Kd.R_move (Kd.R_bound Q4.out) (fun k' hk => mv k' hk.2.1 hk.2.2.1))).2
       have HCB := asd hC
       have hy0 := (blk_cell hY 0).trans rfl
       have hy1 := (blk_cell hY 1).trans rfl
       have hy2 := (blk_cell hY 2).trans rfl
       have hy3 := (blk_cell hY 3).trans rfl
       have hy4 := (blk_cell hY 4).trans rfl
       have hc0 := (blk_cell hC 0).trans rfl
       have hc1 := (blk_cell hC 1).trans rfl
       have hc2 := (blk_cell hC 2).trans rfl
       have hc3 := (blk_cell hC 3).trans rfl
       have hc4 := (blk_cell hC 4).trans rfl
       clear hY hC mv LK hX3 Q2 Q3 Q4 R2 R3 R4
       go_region_with (first
        | (go_at_call 24; refine (parcloselaw03_Ref.calls k y0 y1 _ _ y2 _ _ y3 _ _ y4 z0 z1 z2 z3 z4 _ ?s1 ?s2 ?s3 ?s4 ?s5 ?s6 HZ.out).mono ?_; (case s1 => exact Kd.C_drew YC2.out.2); (case s2 => exact YC2.out.1); (case s3 => exact Kd.C_drew YC3.out.2); (case s4 => exact YC3.out.1); (case s5 => exact Kd.C_drew YC4.out.2); (case s6 => exact YC4.out.1); rintro e wq ⟨p2, p3, p4, rfl, g2, g3, g4, hb⟩; obtain ⟨F2, f2, rfl⟩ := Kd.R_slice g2; obtain ⟨F3, f3, rfl⟩ := Kd.S_slice g3; obtain ⟨F4, f4, rfl⟩ := Kd.R_slice g4; have G2 := asd (Kd.R_reads' g2).2; have G3 := asd (Kd.R_reads' (Kd.S_R g3)).2; have G4 := asd (Kd.R_reads' g4).2; have HBq := asd (below_step (below_drew HB.out) hb); have hCq := blk_below (blk_drew HCB.out) hb; have hd0 := (blk_cell hCq 0).trans rfl; have hd1 := (blk_cell hCq 1).trans rfl; have hd2 := (blk_cell hCq 2).trans rfl; have hd3 := (blk_cell hCq 3).trans rfl; have hd4 := (blk_cell hCq 4).trans rfl; clear g2 g3 g4 hb hCq)
        | (go_at_call 23; refine (parcloseref03_Same.calls k z0 z1 _ _ z2 _ _ z3 _ _ z4 a0_0 a0_1 _ _ l0_2 _ _ l0_3 _ _ l0_4 true _ ?s1 ?s2 ?s3 ?s4 ?s5 ?s6 ?s7 ?s8 ?s9 ?s10 ?s11 ?s12 HS.out).mono ?_; (case s1 => exact G2.out.2); (case s2 => exact G2.out.1); (case s3 => exact G3.out.2); (case s4 => exact G3.out.1); (case s5 => exact G4.out.2); (case s6 => exact G4.out.1); (case s7 => exact Kd.C_below H2.out HBq.out); (case s8 => exact C2.out); (case s9 => exact Kd.C_below H3.out HBq.out); (case s10 => exact C3.out); (case s11 => exact Kd.C_below H4.out HBq.out); (case s12 => exact C4.out); rintro e wz ⟨rfl, hb⟩; have HBz := asd (below_step HBq.out hb); clear hb))
       all_goals go_wp2
       all_goals go_ret
       all_goals exact ⟨rfl, HBz.out⟩
end
end Go.Proofs.Ytmjhnmdmopmfjaa.Fn
namespace Go.Proofs.Ytmjhnmdmopmfjaa.Fn
open Go.RowKit Go.Proofs.YtmjhnmdmopmfjaaW.PrintWords Go.Proofs.YtmjhnmdmopmfjaaW.PrintLast Go.Proofs.YtmjhnmdmopmfjaaW.PrintMore
set_option linter.unusedVariables false
set_option linter.unusedSimpArgs false
theorem wrap_nat {i : Nat} (h : i < 4611686018427387904) : wrap64 ((i : Int) + 1) = ((i + 1 : Nat) : Int) := by unfold wrap64; omega
theorem getD_nat {α : Type} (xs : List α) (i : Nat) (z : α) (h : i < xs.length) : xs.getD (i : Int).toNat z = xs[i] := by simp [List.getD, h]
theorem map_take_succ {α β : Type} (f : α → β) (xs : List α) (i : Nat) (h : i < xs.length) : (xs.take i).map f ++ [f xs[i]] = (xs.take (i + 1)).map f := by
 rw [List.take_succ_eq_append_getElem h, List.map_append]; rfl
theorem Ev.some_ {α : Type} {g : Nat → Option α} {r : α} (h : ∀ k, g k = some r) : Ev g r := ⟨0, fun k _ => h k⟩
def cT (x : S56) : S51 := ⟨x.f0, x.f1, x.f2, x.f3, x.f4, x.f5⟩
def cS (x : S57) : S53 := ⟨x.f0, x.f1, x.f2⟩
def cP (x : S61) : S49 := ⟨x.f0.map cT, x.f1.map cS, x.f2, x.f3⟩
def cW (x : S77) : S42 := ⟨x.f0, x.f1, x.f2⟩
def cC (x : S78) : S44 := ⟨x.f0, x.f1, x.f2, x.f3⟩
def fewP (p : S61) : Prop := p.f0.length ≤ 20 ∧ p.f1.length ≤ 20 ∧ p.f2.length ≤ 20
theorem knows3 : Ev (fun k => parcloselaw03_knows.f k) true := Ev.of (parcloselaw03_knows.mono) (k := 20) (by decide +kernel)
theorem few_ev (p : S61) : parcloselaw03_few.f p.f0 p.f1 p.f2 p.f3.f0 p.f3.f1 p.f3.f2 = some (decide (p.f0.length ≤ 20 ∧ p.f1.length ≤ 20 ∧ p.f2.length ≤ 20)) := by
 unfold parcloselaw03_few.f
 by_cases h : (p.f0.length : Int) ≤ 20
 ·rw [if_pos h]
  by_cases h1 : (p.f1.length : Int) ≤ 20
  ·rw [if_pos h1]; congr 1; rw [decide_eq_decide]; omega
  ·rw [if_neg h1]; congr 1; symm; rw [decide_eq_false_iff_not]; omega
 ·rw [if_neg h]; congr 1; symm; rw [decide_eq_false_iff_not]; omega
def lightB (l2 : List S77) (l3 : List S61) (l4 : List S78) : Bool := decide (l2.length ≤ 60 ∧ l3.length ≤ 20 ∧ l4.length ≤ 30) && l3.all (fun p => decide (p.f0.length ≤ 20 ∧ p.f1.length ≤ 20 ∧ p.f2.length ≤ 20))
theorem light_l0 (a b : Int) (l2 : List S77) (l3 : List S61) (l4 : List S78) (h3 : l3.length ≤ 20) : ∀ d i, l3.length - i = d → i ≤ l3.length → Ev (fun k => parcloselaw03_Light.l0 k (i : Int) a b l2 l3 l4) ((l3.drop i).all (fun p => decide (p.f0.length ≤ 20 ∧ p.f1.length ≤ 20 ∧ p.f2.length ≤ 20))) := by
 intro d
 induction d with
 | zero =>
  intro i hd hi
  obtain rfl : i = l3.length := by omega
  refine Ev.step (f := fun _ => some true) (fun k => by simp only [parcloselaw03_Light.l0]; rw [if_neg (by omega)]) ?_
  rw [List.drop_length]
  exact Ev.now _
 | succ d ih =>
  intro i hd hi
  have hlt : i < l3.length := by omega
  refine Ev.step (fun k => by simp only [parcloselaw03_Light.l0]; rw [if_pos (by omega), if_pos (by omega)]) ?_
  rw [show rd_T61 l3 (i : Int) = l3[i] from getD_nat l3 i _ hlt, few_ev, List.drop_eq_getElem_cons hlt, List.all_cons]
  by_cases hf : l3[i].f0.length ≤ 20 ∧ l3[i].f1.length ≤ 20 ∧ l3[i].f2.length ≤ 20
  ·rw [decide_eq_true hf]
   simp only [Option.bind_some, if_true, Bool.true_and]
   rw [wrap_nat (by omega)]
   exact ih (i + 1) (by omega) (by omega)
  ·rw [decide_eq_false hf]
   exact Ev.some_ (fun k => by simp)
theorem light_ev (a b : Int) (l2 : List S77) (l3 : List S61) (l4 : List S78) : Ev (fun k => parcloselaw03_Light.f k a b l2 l3 l4) (lightB l2 l3 l4) := by
 have j0 : ∀ c : Bool, (c = false → l3.length ≤ 20) → Ev (fun k => parcloselaw03_Light.j0 k c a b l2 l3 l4) (!c && l3.all (fun p => decide (p.f0.length ≤ 20 ∧ p.f1.length ≤ 20 ∧ p.f2.length ≤ 20))) := by
  intro c hc
  cases c with
  | true => exact Ev.step (f := fun _ => some false) (fun k => by simp only [parcloselaw03_Light.j0]; rw [if_pos trivial]) (Ev.now _)
  | false =>
   refine Ev.step (fun k => by simp only [parcloselaw03_Light.j0]; rw [if_neg (by decide)]) ?_
   have := light_l0 a b l2 l3 l4 (hc rfl) l3.length 0 (by omega) (by omega)
   simpa using this
 unfold lightB
 by_cases h : (l2.length : Int) > 60
 ·have := j0 true (by simp)
  rw [decide_eq_false (by omega)]
  refine Ev.congr (fun k => ?_) this
  unfold parcloselaw03_Light.f; rw [if_pos h]
 ·by_cases h1 : (l3.length : Int) > 20
  ·have := j0 true (by simp)
   rw [decide_eq_false (by omega)]
   refine Ev.congr (fun k => ?_) this
   unfold parcloselaw03_Light.f; rw [if_neg h, if_pos h1]
  ·have := j0 (decide ((l4.length : Int) > 30)) (by intro _; omega)
   have e : decide (l2.length ≤ 60 ∧ l3.length ≤ 20 ∧ l4.length ≤ 30) = !decide ((l4.length : Int) > 30) := by
    by_cases h2 : (l4.length : Int) > 30
    ·rw [decide_eq_true h2, decide_eq_false (by omega)]; rfl
    ·rw [decide_eq_false h2, decide_eq_true (by omega)]; rfl
   rw [e]
   refine Ev.congr (fun k => ?_) this
   unfold parcloselaw03_Light.f; rw [if_neg h, if_neg h1]
theorem light_of {l2 : List S77} {l3 : List S61} {l4 : List S78} (h : lightB l2 l3 l4 = true) : l2.length ≤ 60 ∧ l3.length ≤ 20 ∧ l4.length ≤ 30 ∧ ∀ p ∈ l3, fewP p := by
 unfold lightB at h
 simp only [Bool.and_eq_true, decide_eq_true_eq, List.all_eq_true] at h
 exact ⟨h.1.1, h.1.2.1, h.1.2.2, h.2⟩
theorem part_l1 (t0 : List S56) (t1 : List S57) (t2 : List Int) (a b c : Int) (y0 : List S51) (y2 : List Int) (p q r : Int) (h : t1.length ≤ 20) : ∀ d i, t1.length - i = d → i ≤ t1.length →
  Ev (fun k => parcloselaw03_Part.l1 k (i : Int) t0 t1 t2 a b c y0 ((t1.take i).map cS) y2 p q r) (y0, t1.map cS, y2, p, q, r) := by
 intro d
 induction d with
 | zero =>
  intro i hd hi
  obtain rfl : i = t1.length := by omega
  rw [List.take_length]
  exact Ev.step (f := fun _ => _) (fun k => by simp only [parcloselaw03_Part.l1]; rw [if_neg (by omega)]) (Ev.now _)
 | succ d ih =>
  intro i hd hi
  have hlt : i < t1.length := by omega
  refine Ev.step (fun k => by simp only [parcloselaw03_Part.l1]; rw [if_pos (by omega), if_pos (by omega), if_pos (by simp; omega)]) ?_
  rw [show rd_T57 t1 (i : Int) = t1[i] from getD_nat t1 i _ hlt, wrap_nat (by omega)]
  have := ih (i + 1) (by omega) (by omega)
  rw [← map_take_succ cS t1 i hlt] at this
  exact this
theorem part_l0 (t0 : List S56) (t1 : List S57) (t2 : List Int) (a b c : Int) (y2 : List Int) (p q r : Int) (h0 : t0.length ≤ 20) (h : t1.length ≤ 20) : ∀ d i, t0.length - i = d → i ≤ t0.length →
  Ev (fun k => parcloselaw03_Part.l0 k (i : Int) t0 t1 t2 a b c ((t0.take i).map cT) y2 p q r) (t0.map cT, t1.map cS, y2, p, q, r) := by
 intro d
 induction d with
 | zero =>
  intro i hd hi
  obtain rfl : i = t0.length := by omega
  rw [List.take_length]
  refine Ev.step (fun k => by simp only [parcloselaw03_Part.l0]; rw [if_neg (by omega)]) ?_
  have := part_l1 t0 t1 t2 a b c (t0.map cT) y2 p q r h t1.length 0 (by omega) (by omega)
  simpa using this
 | succ d ih =>
  intro i hd hi
  have hlt : i < t0.length := by omega
  refine Ev.step (fun k => by simp only [parcloselaw03_Part.l0]; rw [if_pos (by omega), if_pos (by omega), if_pos (by simp; omega)]) ?_
  rw [show rd_T56 t0 (i : Int) = t0[i] from getD_nat t0 i _ hlt, wrap_nat (by omega)]
  have := ih (i + 1) (by omega) (by omega)
  rw [← map_take_succ cT t0 i hlt] at this
  exact this
theorem part_ev (p : S61) (h : fewP p) : Ev (fun k => parcloselaw03_Part.f k p.f0 p.f1 p.f2 p.f3.f0 p.f3.f1 p.f3.f2) (p.f0.map cT, p.f1.map cS, p.f2, p.f3.f0, p.f3.f1, p.f3.f2) := by
 refine Ev.congr (fun k => by unfold parcloselaw03_Part.f; rw [Option.bind_some, if_pos (by have := h.2.2; simp; omega)]) ?_
 have := part_l0 p.f0 p.f1 p.f2 p.f3.f0 p.f3.f1 p.f3.f2 p.f2 p.f3.f0 p.f3.f1 p.f3.f2 h.1 h.2.1 p.f0.length 0 (by omega) (by omega)
 simpa using this
theorem config_l2 (a b : Int) (l2 : List S77) (l3 : List S61) (l4 : List S78) (x y : Int) (y2 : List S42) (y3 : List S49) (h : l4.length ≤ 30) : ∀ d i, l4.length - i = d → i ≤ l4.length →
  Ev (fun k => parcloselaw03_Config.l2 k (i : Int) a b l2 l3 l4 x y y2 y3 ((l4.take i).map cC)) (x, y, y2, y3, l4.map cC) := by
 intro d
 induction d with
 | zero =>
  intro i hd hi
  obtain rfl : i = l4.length := by omega
  rw [List.take_length]
  exact Ev.step (f := fun _ => _) (fun k => by simp only [parcloselaw03_Config.l2]; rw [if_neg (by omega)]) (Ev.now _)
 | succ d ih =>
  intro i hd hi
  have hlt : i < l4.length := by omega
  refine Ev.step (fun k => by simp only [parcloselaw03_Config.l2]; rw [if_pos (by omega), if_pos (by omega), if_pos (by simp; omega)]) ?_
  rw [show rd_T78 l4 (i : Int) = l4[i] from getD_nat l4 i _ hlt, wrap_nat (by omega)]
  have := ih (i + 1) (by omega) (by omega)
  rw [← map_take_succ cC l4 i hlt] at this
  exact this
theorem config_l1 (a b : Int) (l2 : List S77) (l3 : List S61) (l4 : List S78) (x y : Int) (y2 : List S42) (h3 : l3.length ≤ 20) (h : l4.length ≤ 30) (hf : ∀ p ∈ l3, fewP p) : ∀ d i, l3.length - i = d → i ≤ l3.length →
  Ev (fun k => parcloselaw03_Config.l1 k (i : Int) a b l2 l3 l4 x y y2 ((l3.take i).map cP)) (x, y, y2, l3.map cP, l4.map cC) := by
 intro d
 induction d with
 | zero =>
  intro i hd hi
  obtain rfl : i = l3.length := by omega
  rw [List.take_length]
  refine Ev.step (fun k => by simp only [parcloselaw03_Config.l1]; rw [if_neg (by omega)]) ?_
  have := config_l2 a b l2 l3 l4 x y y2 (l3.map cP) h l4.length 0 (by omega) (by omega)
  simpa using this
 | succ d ih =>
  intro i hd hi
  have hlt : i < l3.length := by omega
  refine Ev.step (fun k => by simp only [parcloselaw03_Config.l1]; rw [if_pos (by omega), if_pos (by omega)]) ?_
  rw [show rd_T61 l3 (i : Int) = l3[i] from getD_nat l3 i _ hlt, wrap_nat (by omega)]
  refine Ev.bind (part_ev l3[i] (hf _ (List.getElem_mem hlt))) ?_
  refine Ev.congr (fun k => by rw [if_pos (by simp; omega)]) ?_
  have := ih (i + 1) (by omega) (by omega)
  rw [← map_take_succ cP l3 i hlt] at this
  exact this
theorem config_l0 (a b : Int) (l2 : List S77) (l3 : List S61) (l4 : List S78) (x y : Int) (h2 : l2.length ≤ 60) (h3 : l3.length ≤ 20) (h : l4.length ≤ 30) (hf : ∀ p ∈ l3, fewP p) : ∀ d i, l2.length - i = d → i ≤ l2.length →
  Ev (fun k => parcloselaw03_Config.l0 k (i : Int) a b l2 l3 l4 x y ((l2.take i).map cW)) (x, y, l2.map cW, l3.map cP, l4.map cC) := by
 intro d
 induction d with
 | zero =>
  intro i hd hi
  obtain rfl : i = l2.length := by omega
  rw [List.take_length]
  refine Ev.step (fun k => by simp only [parcloselaw03_Config.l0]; rw [if_neg (by omega)]) ?_
  have := config_l1 a b l2 l3 l4 x y (l2.map cW) h3 h hf l3.length 0 (by omega) (by omega)
  simpa using this
 | succ d ih =>
  intro i hd hi
  have hlt : i < l2.length := by omega
  refine Ev.step (fun k => by simp only [parcloselaw03_Config.l0]; rw [if_pos (by omega), if_pos (by omega), if_pos (by simp; omega)]) ?_
  rw [show rd_T77 l2 (i : Int) = l2[i] from getD_nat l2 i _ hlt, wrap_nat (by omega)]
  have := ih (i + 1) (by omega) (by omega)
  rw [← map_take_succ cW l2 i hlt] at this
  exact this
theorem config_ev {a b : Int} {l2 : List S77} {l3 : List S61} {l4 : List S78} (hl : lightB l2 l3 l4 = true) : Ev (fun k => parcloselaw03_Config.f k a b l2 l3 l4) (a, b, l2.map cW, l3.map cP, l4.map cC) := by
 obtain ⟨h2, h3, h4, hf⟩ := light_of hl
 have := config_l0 a b l2 l3 l4 a b h2 h3 h4 hf l2.length 0 (by omega) (by omega)
 refine Ev.congr (fun k => by unfold parcloselaw03_Config.f; rfl) ?_
 simpa using this
end Go.Proofs.Ytmjhnmdmopmfjaa.Fn
namespace Go.Proofs.Ytmjhnmdmopmfjaa.Fn
open Go.RowKit Go.Proofs.YtmjhnmdmopmfjaaW.PrintWords Go.Proofs.YtmjhnmdmopmfjaaW.PrintLast Go.Proofs.YtmjhnmdmopmfjaaW.PrintMore
set_option linter.unusedVariables false
set_option linter.unusedSimpArgs false
def dT (x : S51) : S56 := ⟨x.f0, x.f1, x.f2, x.f3, x.f4, x.f5⟩
def dS (x : S53) : S57 := ⟨x.f0, x.f1, x.f2⟩
def dP (x : S49) : S61 := ⟨x.f0.map dT, x.f1.map dS, x.f2, x.f3⟩
def dW (x : S42) : S77 := ⟨x.f0, x.f1, x.f2⟩
def dC (x : S44) : S78 := ⟨x.f0, x.f1, x.f2, x.f3⟩
def fewQ (p : S49) : Prop := p.f0.length ≤ 20 ∧ p.f1.length ≤ 20 ∧ p.f2.length ≤ 20
theorem rpart_l1 (t0 : List S51) (t1 : List S53) (t2 : List Int) (a b c : Int) (y0 : List S56) (y2 : List Int) (p q r : Int) (h : t1.length ≤ 20) : ∀ d i, t1.length - i = d → i ≤ t1.length →
  Ev (fun k => parcloselaw03_RefPart.l1 k (i : Int) t0 t1 t2 a b c y0 ((t1.take i).map dS) y2 p q r) (y0, t1.map dS, y2, p, q, r) := by
 intro d
 induction d with
 | zero =>
  intro i hd hi
  obtain rfl : i = t1.length := by omega
  rw [List.take_length]
  exact Ev.step (f := fun _ => _) (fun k => by simp only [parcloselaw03_RefPart.l1]; rw [if_neg (by omega)]) (Ev.now _)
 | succ d ih =>
  intro i hd hi
  have hlt : i < t1.length := by omega
  refine Ev.step (fun k => by simp only [parcloselaw03_RefPart.l1]; rw [if_pos (by omega), if_pos (by omega), if_pos (by simp; omega)]) ?_
  rw [show rd_T53 t1 (i : Int) = t1[i] from getD_nat t1 i _ hlt, wrap_nat (by omega)]
  have := ih (i + 1) (by omega) (by omega)
  rw [← map_take_succ dS t1 i hlt] at this
  exact this
theorem rpart_l0 (t0 : List S51) (t1 : List S53) (t2 : List Int) (a b c : Int) (y2 : List Int) (p q r : Int) (h0 : t0.length ≤ 20) (h : t1.length ≤ 20) : ∀ d i, t0.length - i = d → i ≤ t0.length →
  Ev (fun k => parcloselaw03_RefPart.l0 k (i : Int) t0 t1 t2 a b c ((t0.take i).map dT) y2 p q r) (t0.map dT, t1.map dS, y2, p, q, r) := by
 intro d
 induction d with
 | zero =>
  intro i hd hi
  obtain rfl : i = t0.length := by omega
  rw [List.take_length]
  refine Ev.step (fun k => by simp only [parcloselaw03_RefPart.l0]; rw [if_neg (by omega)]) ?_
  have := rpart_l1 t0 t1 t2 a b c (t0.map dT) y2 p q r h t1.length 0 (by omega) (by omega)
  simpa using this
 | succ d ih =>
  intro i hd hi
  have hlt : i < t0.length := by omega
  refine Ev.step (fun k => by simp only [parcloselaw03_RefPart.l0]; rw [if_pos (by omega), if_pos (by omega), if_pos (by simp; omega)]) ?_
  rw [show rd_T51 t0 (i : Int) = t0[i] from getD_nat t0 i _ hlt, wrap_nat (by omega)]
  have := ih (i + 1) (by omega) (by omega)
  rw [← map_take_succ dT t0 i hlt] at this
  exact this
theorem rpart_ev (p : S49) (h : fewQ p) : Ev (fun k => parcloselaw03_RefPart.f k p.f0 p.f1 p.f2 p.f3.f0 p.f3.f1 p.f3.f2) (p.f0.map dT, p.f1.map dS, p.f2, p.f3.f0, p.f3.f1, p.f3.f2) := by
 refine Ev.congr (fun k => by unfold parcloselaw03_RefPart.f; rw [Option.bind_some, if_pos (by have := h.2.2; simp; omega)]) ?_
 have := rpart_l0 p.f0 p.f1 p.f2 p.f3.f0 p.f3.f1 p.f3.f2 p.f2 p.f3.f0 p.f3.f1 p.f3.f2 h.1 h.2.1 p.f0.length 0 (by omega) (by omega)
 simpa using this
theorem rconfig_l2 (a b : Int) (l2 : List S42) (l3 : List S49) (l4 : List S44) (x y : Int) (y2 : List S77) (y3 : List S61) (h : l4.length ≤ 30) : ∀ d i, l4.length - i = d → i ≤ l4.length →
  Ev (fun k => parcloselaw03_Ref.l2 k (i : Int) a b l2 l3 l4 x y y2 y3 ((l4.take i).map dC)) (x, y, y2, y3, l4.map dC) := by
 intro d
 induction d with
 | zero =>
  intro i hd hi
  obtain rfl : i = l4.length := by omega
  rw [List.take_length]
  exact Ev.step (f := fun _ => _) (fun k => by simp only [parcloselaw03_Ref.l2]; rw [if_neg (by omega)]) (Ev.now _)
 | succ d ih =>
  intro i hd hi
  have hlt : i < l4.length := by omega
  refine Ev.step (fun k => by simp only [parcloselaw03_Ref.l2]; rw [if_pos (by omega), if_pos (by omega), if_pos (by simp; omega)]) ?_
  rw [show rd_T44 l4 (i : Int) = l4[i] from getD_nat l4 i _ hlt, wrap_nat (by omega)]
  have := ih (i + 1) (by omega) (by omega)
  rw [← map_take_succ dC l4 i hlt] at this
  exact this
theorem rconfig_l1 (a b : Int) (l2 : List S42) (l3 : List S49) (l4 : List S44) (x y : Int) (y2 : List S77) (h3 : l3.length ≤ 20) (h : l4.length ≤ 30) (hf : ∀ p ∈ l3, fewQ p) : ∀ d i, l3.length - i = d → i ≤ l3.length →
  Ev (fun k => parcloselaw03_Ref.l1 k (i : Int) a b l2 l3 l4 x y y2 ((l3.take i).map dP)) (x, y, y2, l3.map dP, l4.map dC) := by
 intro d
 induction d with
 | zero =>
  intro i hd hi
  obtain rfl : i = l3.length := by omega
  rw [List.take_length]
  refine Ev.step (fun k => by simp only [parcloselaw03_Ref.l1]; rw [if_neg (by omega)]) ?_
  have := rconfig_l2 a b l2 l3 l4 x y y2 (l3.map dP) h l4.length 0 (by omega) (by omega)
  simpa using this
 | succ d ih =>
  intro i hd hi
  have hlt : i < l3.length := by omega
  refine Ev.step (fun k => by simp only [parcloselaw03_Ref.l1]; rw [if_pos (by omega), if_pos (by omega)]) ?_
  rw [show rd_T49 l3 (i : Int) = l3[i] from getD_nat l3 i _ hlt, wrap_nat (by omega)]
  refine Ev.bind (rpart_ev l3[i] (hf _ (List.getElem_mem hlt))) ?_
  refine Ev.congr (fun k => by rw [if_pos (by simp; omega)]) ?_
  have := ih (i + 1) (by omega) (by omega)
  rw [← map_take_succ dP l3 i hlt] at this
  exact this
theorem rconfig_l0 (a b : Int) (l2 : List S42) (l3 : List S49) (l4 : List S44) (x y : Int) (h2 : l2.length ≤ 60) (h3 : l3.length ≤ 20) (h : l4.length ≤ 30) (hf : ∀ p ∈ l3, fewQ p) : ∀ d i, l2.length - i = d → i ≤ l2.length →
  Ev (fun k => parcloselaw03_Ref.l0 k (i : Int) a b l2 l3 l4 x y ((l2.take i).map dW)) (x, y, l2.map dW, l3.map dP, l4.map dC) := by
 intro d
 induction d with
 | zero =>
  intro i hd hi
  obtain rfl : i = l2.length := by omega
  rw [List.take_length]
  refine Ev.step (fun k => by simp only [parcloselaw03_Ref.l0]; rw [if_neg (by omega)]) ?_
  have := rconfig_l1 a b l2 l3 l4 x y (l2.map dW) h3 h hf l3.length 0 (by omega) (by omega)
  simpa using this
 | succ d ih =>
  intro i hd hi
  have hlt : i < l2.length := by omega
  refine Ev.step (fun k => by simp only [parcloselaw03_Ref.l0]; rw [if_pos (by omega), if_pos (by omega), if_pos (by simp; omega)]) ?_
  rw [show rd_T42 l2 (i : Int) = l2[i] from getD_nat l2 i _ hlt, wrap_nat (by omega)]
  have := ih (i + 1) (by omega) (by omega)
  rw [← map_take_succ dW l2 i hlt] at this
  exact this
theorem rconfig_ev {a b : Int} {l2 : List S42} {l3 : List S49} {l4 : List S44} (h2 : l2.length ≤ 60) (h3 : l3.length ≤ 20) (h4 : l4.length ≤ 30) (hf : ∀ p ∈ l3, fewQ p) : Ev (fun k => parcloselaw03_Ref.f k a b l2 l3 l4) (a, b, l2.map dW, l3.map dP, l4.map dC) := by
 have := rconfig_l0 a b l2 l3 l4 a b h2 h3 h4 hf l2.length 0 (by omega) (by omega)
 refine Ev.congr (fun k => by unfold parcloselaw03_Ref.f; rfl) ?_
 simpa using this
theorem dT_cT (l : List S56) : (l.map cT).map dT = l := by rw [List.map_map]; exact List.map_id l
theorem dS_cS (l : List S57) : (l.map cS).map dS = l := by rw [List.map_map]; exact List.map_id l
theorem dP_cP (l : List S61) : (l.map cP).map dP = l := by
 rw [List.map_map]
 have : dP ∘ cP = id := by funext p; obtain ⟨x, y, z, u⟩ := p; simp only [Function.comp, dP, cP, dT_cT, dS_cS, id]
 rw [this]; exact List.map_id l
theorem dW_cW (l : List S77) : (l.map cW).map dW = l := by rw [List.map_map]; exact List.map_id l
theorem dC_cC (l : List S78) : (l.map cC).map dC = l := by rw [List.map_map]; exact List.map_id l
theorem cP_few {l : List S61} (h : ∀ p ∈ l, fewP p) : ∀ p ∈ l.map cP, fewQ p := by
 intro p hp
 obtain ⟨q, hq, rfl⟩ := List.mem_map.1 hp
 have := h q hq
 simpa [fewQ, cP, fewP] using this
theorem clone_l0 (a b : Int) (l2 : List S42) (l3 x3 : List S49) (l4 : List S44) (h3 : l3.length ≤ 20) (hf : ∀ p ∈ l3, fewQ p) : ∀ d i, l3.length - i = d → i ≤ l3.length →
  Ev (fun k => conf_Clone.l0 k (l3.take i) l3 (l3.length : Int) (i : Int) a b l2 x3 l4) (a, b, l2, l3, l4) := by
 intro d
 induction d with
 | zero =>
  intro i hd hi
  obtain rfl : i = l3.length := by omega
  rw [List.take_length]
  exact Ev.step (f := fun _ => some (a, b, l2, l3, l4)) (fun k => by simp only [conf_Clone.l0]; rw [if_neg (by omega)]) (Ev.now _)
 | succ d ih =>
  intro i hd hi
  have hlt : i < l3.length := by omega
  have hq := hf _ (List.getElem_mem hlt)
  have e0 : conf_Task_52.f l3[i].f0 = some l3[i].f0 := by unfold conf_Task_52.f; rw [if_pos (by have := hq.1; omega)]
  have e1 : conf_Server_53.f l3[i].f1 = some l3[i].f1 := by unfold conf_Server_53.f; rw [if_pos (by have := hq.2.1; omega)]
  have e2 : slices_Clone_int_int.f l3[i].f2 = some l3[i].f2 := by unfold slices_Clone_int_int.f; rw [if_pos (by have := hq.2.2; omega)]
  refine Ev.step (fun k => by simp only [conf_Clone.l0]; rw [if_pos (by omega), if_pos (by omega), if_pos (by omega), show rd_T49 l3 (i : Int) = l3[i] from getD_nat l3 i _ hlt, e0, e1, e2, Option.bind_some, Option.bind_some, Option.bind_some, if_pos (by simp; omega), wrap_nat (by omega)]) ?_
  have := ih (i + 1) (by omega) (by omega)
  rw [List.take_succ_eq_append_getElem hlt] at this
  exact this
theorem clone_ev {a b : Int} {l2 : List S42} {l3 : List S49} {l4 : List S44} (h2 : l2.length ≤ 60) (h3 : l3.length ≤ 20) (h4 : l4.length ≤ 30) (hf : ∀ p ∈ l3, fewQ p) : Ev (fun k => conf_Clone.f k a b l2 l3 l4) (a, b, l2, l3, l4) := by
 have e0 : conf_Window_50.f l2 = some l2 := by unfold conf_Window_50.f; rw [if_pos (by omega)]
 have e1 : conf_Channel_51.f l4 = some l4 := by unfold conf_Channel_51.f; rw [if_pos (by omega)]
 refine Ev.congr (fun k => by unfold conf_Clone.f; rw [e0, e1, Option.bind_some, Option.bind_some]) ?_
 have := clone_l0 a b l2 l3 l3 l4 h3 hf l3.length 0 (by omega) (by omega)
 simpa using this
end Go.Proofs.Ytmjhnmdmopmfjaa.Fn
namespace Go.Proofs.Ytmjhnmdmopmfjaa.Fn
open Go.RowKit Go.Proofs.YtmjhnmdmopmfjaaW.PrintWords Go.Proofs.YtmjhnmdmopmfjaaW.PrintLast Go.Proofs.YtmjhnmdmopmfjaaW.PrintMore
attribute [local go_sem] max2_int min2_int max_two min_two max_three min_three max_four min_four
set_option linter.unusedVariables false
set_option linter.unusedSimpArgs false
theorem eqA42 (d : Nat) (w : World) (x0 y0 : Int) (x1 y1 : Int) (x2 y2 : Int) :
  (Op.equalIn (d + 2) 42 (.agg #[.int .i64 x0, .int .i64 x1, .int .i64 x2]) (.agg #[.int .i64 y0, .int .i64 y1, .int .i64 y2])).run Try.prog w = .ok (x0 == y0 && (x1 == y1 && (x2 == y2))) w := by
 refine eqA_of Try.underlying42 (by kernel_rfl) ?_
 refine eqf_cons (by rfl) (by go_simp; rfl) (by go_simp; rfl) (by go_simp) ?_
 refine eqf_cons (by rfl) (by go_simp; rfl) (by go_simp; rfl) (by go_simp) ?_
 exact eqf_last (by rfl) (by go_simp; rfl) (by go_simp; rfl) (by go_simp)
end Go.Proofs.Ytmjhnmdmopmfjaa.Fn
namespace Go.Proofs.Ytmjhnmdmopmfjaa.Fn
open Go.RowKit Go.Proofs.YtmjhnmdmopmfjaaW.PrintWords Go.Proofs.YtmjhnmdmopmfjaaW.PrintLast Go.Proofs.YtmjhnmdmopmfjaaW.PrintMore
attribute [local go_sem] max2_int min2_int max_two min_two max_three min_three max_four min_four
set_option linter.unusedVariables false
set_option linter.unusedSimpArgs false
attribute [local go_sem high] eqA42
def conf_Window_61.l0 : Nat → List (S42) → List (S42) → Int → Int → Option (Bool)
 | 0, _, _, _, _ => none
 | k + 1, x0, x1, x12, x13 => if x13 < x12 then (if 0 ≤ x13 then (if x13 < (x0.length : Int) then (if x13 < (x1.length : Int) then (if (!(((rd_T42 x0 x13).f0) == ((rd_T42 x1 x13).f0)) || (!(((rd_T42 x0 x13).f1) == ((rd_T42 x1 x13).f1)) || (!(((rd_T42 x0 x13).f2) == ((rd_T42 x1 x13).f2))))) = true then (some false) else (conf_Window_61.l0 k x0 x1 x12 (wrap64 (x13 + 1)))) else (none)) else (none)) else (none)) else (some true)
def conf_Window_61.f (k : Nat) (l0 : List (S42)) (l1 : List (S42)) : Option (Bool) := if (l0.length : Int) = (l1.length : Int) then (conf_Window_61.l0 k l0 l1 (l0.length : Int) 0) else (some false)
end Go.Proofs.Ytmjhnmdmopmfjaa.Fn
namespace Go.Proofs.Ytmjhnmdmopmfjaa.Fn
open Go.RowKit Go.Proofs.YtmjhnmdmopmfjaaW.PrintWords Go.Proofs.YtmjhnmdmopmfjaaW.PrintLast Go.Proofs.YtmjhnmdmopmfjaaW.PrintMore
attribute [local go_sem] max2_int min2_int max_two min_two max_three min_three max_four min_four
set_option linter.unusedVariables false
set_option linter.unusedSimpArgs false
theorem eqA51 (d : Nat) (w : World) (x0 y0 : Bool) (x1 y1 : Int) (x2 y2 : Int) (x3 y3 : Int) (x4 y4 : Int) (x5 y5 : Int) :
  (Op.equalIn (d + 2) 51 (.agg #[.bool x0, .int .i64 x1, .int .i64 x2, .int .i64 x3, .int .i64 x4, .int .i64 x5]) (.agg #[.bool y0, .int .i64 y1, .int .i64 y2, .int .i64 y3, .int .i64 y4, .int .i64 y5])).run Try.prog w = .ok (x0 == y0 && (x1 == y1 && (x2 == y2 && (x3 == y3 && (x4 == y4 && (x5 == y5)))))) w := by
 refine eqA_of Try.underlying51 (by kernel_rfl) ?_
 refine eqf_cons (by rfl) (by go_simp; rfl) (by go_simp; rfl) (by go_simp) ?_
 refine eqf_cons (by rfl) (by go_simp; rfl) (by go_simp; rfl) (by go_simp) ?_
 refine eqf_cons (by rfl) (by go_simp; rfl) (by go_simp; rfl) (by go_simp) ?_
 refine eqf_cons (by rfl) (by go_simp; rfl) (by go_simp; rfl) (by go_simp) ?_
 refine eqf_cons (by rfl) (by go_simp; rfl) (by go_simp; rfl) (by go_simp) ?_
 exact eqf_last (by rfl) (by go_simp; rfl) (by go_simp; rfl) (by go_simp)
end Go.Proofs.Ytmjhnmdmopmfjaa.Fn
namespace Go.Proofs.Ytmjhnmdmopmfjaa.Fn
open Go.RowKit Go.Proofs.YtmjhnmdmopmfjaaW.PrintWords Go.Proofs.YtmjhnmdmopmfjaaW.PrintLast Go.Proofs.YtmjhnmdmopmfjaaW.PrintMore
attribute [local go_sem] max2_int min2_int max_two min_two max_three min_three max_four min_four
set_option linter.unusedVariables false
set_option linter.unusedSimpArgs false
attribute [local go_sem high] eqA51
def conf_Task_106.l0 : Nat → List (S51) → List (S51) → Int → Int → Option (Bool)
 | 0, _, _, _, _ => none
 | k + 1, x0, x1, x12, x13 => if x13 < x12 then (if 0 ≤ x13 then (if x13 < (x0.length : Int) then (if x13 < (x1.length : Int) then (if (!(((rd_T51 x0 x13).f0) == ((rd_T51 x1 x13).f0)) || (!(((rd_T51 x0 x13).f1) == ((rd_T51 x1 x13).f1)) || (!(((rd_T51 x0 x13).f2) == ((rd_T51 x1 x13).f2)) || (!(((rd_T51 x0 x13).f3) == ((rd_T51 x1 x13).f3)) || (!(((rd_T51 x0 x13).f4) == ((rd_T51 x1 x13).f4)) || (!(((rd_T51 x0 x13).f5) == ((rd_T51 x1 x13).f5)))))))) = true then (some false) else (conf_Task_106.l0 k x0 x1 x12 (wrap64 (x13 + 1)))) else (none)) else (none)) else (none)) else (some true)
def conf_Task_106.f (k : Nat) (l0 : List (S51)) (l1 : List (S51)) : Option (Bool) := if (l0.length : Int) = (l1.length : Int) then (conf_Task_106.l0 k l0 l1 (l0.length : Int) 0) else (some false)
end Go.Proofs.Ytmjhnmdmopmfjaa.Fn
namespace Go.Proofs.Ytmjhnmdmopmfjaa.Fn
open Go.RowKit Go.Proofs.YtmjhnmdmopmfjaaW.PrintWords Go.Proofs.YtmjhnmdmopmfjaaW.PrintLast Go.Proofs.YtmjhnmdmopmfjaaW.PrintMore
attribute [local go_sem] max2_int min2_int max_two min_two max_three min_three max_four min_four
set_option linter.unusedVariables false
set_option linter.unusedSimpArgs false
theorem eqA53 (d : Nat) (w : World) (x0 y0 : Bool) (x1 y1 : Int) (x2 y2 : Int) :
  (Op.equalIn (d + 2) 53 (.agg #[.bool x0, .int .i64 x1, .int .i64 x2]) (.agg #[.bool y0, .int .i64 y1, .int .i64 y2])).run Try.prog w = .ok (x0 == y0 && (x1 == y1 && (x2 == y2))) w := by
 refine eqA_of Try.underlying53 (by kernel_rfl) ?_
 refine eqf_cons (by rfl) (by go_simp; rfl) (by go_simp; rfl) (by go_simp) ?_
 refine eqf_cons (by rfl) (by go_simp; rfl) (by go_simp; rfl) (by go_simp) ?_
 exact eqf_last (by rfl) (by go_simp; rfl) (by go_simp; rfl) (by go_simp)
end Go.Proofs.Ytmjhnmdmopmfjaa.Fn
namespace Go.Proofs.Ytmjhnmdmopmfjaa.Fn
open Go.RowKit Go.Proofs.YtmjhnmdmopmfjaaW.PrintWords Go.Proofs.YtmjhnmdmopmfjaaW.PrintLast Go.Proofs.YtmjhnmdmopmfjaaW.PrintMore
attribute [local go_sem] max2_int min2_int max_two min_two max_three min_three max_four min_four
set_option linter.unusedVariables false
set_option linter.unusedSimpArgs false
attribute [local go_sem high] eqA53
def conf_Server_107.l0 : Nat → List (S53) → List (S53) → Int → Int → Option (Bool)
 | 0, _, _, _, _ => none
 | k + 1, x0, x1, x12, x13 => if x13 < x12 then (if 0 ≤ x13 then (if x13 < (x0.length : Int) then (if x13 < (x1.length : Int) then (if (!(((rd_T53 x0 x13).f0) == ((rd_T53 x1 x13).f0)) || (!(((rd_T53 x0 x13).f1) == ((rd_T53 x1 x13).f1)) || (!(((rd_T53 x0 x13).f2) == ((rd_T53 x1 x13).f2))))) = true then (some false) else (conf_Server_107.l0 k x0 x1 x12 (wrap64 (x13 + 1)))) else (none)) else (none)) else (none)) else (some true)
def conf_Server_107.f (k : Nat) (l0 : List (S53)) (l1 : List (S53)) : Option (Bool) := if (l0.length : Int) = (l1.length : Int) then (conf_Server_107.l0 k l0 l1 (l0.length : Int) 0) else (some false)
end Go.Proofs.Ytmjhnmdmopmfjaa.Fn
namespace Go.Proofs.Ytmjhnmdmopmfjaa.Fn
open Go.RowKit Go.Proofs.YtmjhnmdmopmfjaaW.PrintWords Go.Proofs.YtmjhnmdmopmfjaaW.PrintLast Go.Proofs.YtmjhnmdmopmfjaaW.PrintMore
attribute [local go_sem] max2_int min2_int max_two min_two max_three min_three max_four min_four
set_option linter.unusedVariables false
set_option linter.unusedSimpArgs false
def slices_Equal_int_int.l0 : Nat → List Int → List Int → Int → Int → Option (Bool)
 | 0, _, _, _, _ => none
 | k + 1, x0, x1, x12, x13 => if x13 < x12 then (if 0 ≤ x13 then (if x13 < (x0.length : Int) then (if x13 < (x1.length : Int) then (if (rd x0 x13) = (rd x1 x13) then (slices_Equal_int_int.l0 k x0 x1 x12 (wrap64 (x13 + 1))) else (some false)) else (none)) else (none)) else (none)) else (some true)
def slices_Equal_int_int.f (k : Nat) (l0 : List Int) (l1 : List Int) : Option (Bool) := if (l0.length : Int) = (l1.length : Int) then (slices_Equal_int_int.l0 k l0 l1 (l0.length : Int) 0) else (some false)
end Go.Proofs.Ytmjhnmdmopmfjaa.Fn
namespace Go.Proofs.Ytmjhnmdmopmfjaa.Fn
open Go.RowKit Go.Proofs.YtmjhnmdmopmfjaaW.PrintWords Go.Proofs.YtmjhnmdmopmfjaaW.PrintLast Go.Proofs.YtmjhnmdmopmfjaaW.PrintMore
attribute [local go_sem] max2_int min2_int max_two min_two max_three min_three max_four min_four
set_option linter.unusedVariables false
set_option linter.unusedSimpArgs false
attribute [local go_sem high] eqA47
def conf_same.f (k : Nat) (l0_0 : List (S51)) (l0_1 : List (S53)) (l0_2 : List Int) (a0_3 : Int) (a0_4 : Int) (a0_5 : Int) (l1_0 : List (S51)) (l1_1 : List (S53)) (l1_2 : List Int) (a1_3 : Int) (a1_4 : Int) (a1_5 : Int) : Option (Bool) := (conf_Task_106.f k l0_0 l1_0).bind fun t396 => (if t396 = true then ((conf_Server_107.f k l0_1 l1_1).bind fun t397 => (if t397 = true then ((slices_Equal_int_int.f k l0_2 l1_2).bind fun t398 => (if t398 = true then (some (a0_3 == a1_3 && (a0_4 == a1_4 && (a0_5 == a1_5)))) else (some false))) else (some false))) else (some false))
end Go.Proofs.Ytmjhnmdmopmfjaa.Fn
namespace Go.Proofs.Ytmjhnmdmopmfjaa.Fn
open Go.RowKit Go.Proofs.YtmjhnmdmopmfjaaW.PrintWords Go.Proofs.YtmjhnmdmopmfjaaW.PrintLast Go.Proofs.YtmjhnmdmopmfjaaW.PrintMore
attribute [local go_sem] max2_int min2_int max_two min_two max_three min_three max_four min_four
set_option linter.unusedVariables false
set_option linter.unusedSimpArgs false
def conf_Part_62.l0 : Nat → List (S49) → List (S49) → Int → Int → Option (Bool)
 | 0, _, _, _, _ => none
 | k + 1, x1, x15, x16, x17 => if x17 < x16 then (if 0 ≤ x17 then (if x17 < (x15.length : Int) then (if x17 < (x1.length : Int) then ((conf_same.f k ((rd_T49 x15 x17).f0) ((rd_T49 x15 x17).f1) ((rd_T49 x15 x17).f2) ((rd_T49 x15 x17).f3.f0) ((rd_T49 x15 x17).f3.f1) ((rd_T49 x15 x17).f3.f2) ((rd_T49 x1 x17).f0) ((rd_T49 x1 x17).f1) ((rd_T49 x1 x17).f2) ((rd_T49 x1 x17).f3.f0) ((rd_T49 x1 x17).f3.f1) ((rd_T49 x1 x17).f3.f2)).bind fun t403 => (if t403 = true then (conf_Part_62.l0 k x1 x15 x16 (wrap64 (x17 + 1))) else (some false))) else (none)) else (none)) else (none)) else (some true)
def conf_Part_62.f (k : Nat) (l0 : List (S49)) (l1 : List (S49))  : Option (Bool) := if (l0.length : Int) = (l1.length : Int) then (conf_Part_62.l0 k l1 l0 (l0.length : Int) 0) else (some false)
end Go.Proofs.Ytmjhnmdmopmfjaa.Fn
namespace Go.Proofs.Ytmjhnmdmopmfjaa.Fn
open Go.RowKit Go.Proofs.YtmjhnmdmopmfjaaW.PrintWords Go.Proofs.YtmjhnmdmopmfjaaW.PrintLast Go.Proofs.YtmjhnmdmopmfjaaW.PrintMore
attribute [local go_sem] max2_int min2_int max_two min_two max_three min_three max_four min_four
set_option linter.unusedVariables false
set_option linter.unusedSimpArgs false
theorem eqA44 (d : Nat) (w : World) (x0 y0 : Bool) (x1 y1 : Int) (x2 y2 : Int) (x3 y3 : Int) :
  (Op.equalIn (d + 2) 44 (.agg #[.bool x0, .int .i64 x1, .int .i64 x2, .int .i64 x3]) (.agg #[.bool y0, .int .i64 y1, .int .i64 y2, .int .i64 y3])).run Try.prog w = .ok (x0 == y0 && (x1 == y1 && (x2 == y2 && (x3 == y3)))) w := by
 refine eqA_of Try.underlying44 (by kernel_rfl) ?_
 refine eqf_cons (by rfl) (by go_simp; rfl) (by go_simp; rfl) (by go_simp) ?_
 refine eqf_cons (by rfl) (by go_simp; rfl) (by go_simp; rfl) (by go_simp) ?_
 refine eqf_cons (by rfl) (by go_simp; rfl) (by go_simp; rfl) (by go_simp) ?_
 exact eqf_last (by rfl) (by go_simp; rfl) (by go_simp; rfl) (by go_simp)
end Go.Proofs.Ytmjhnmdmopmfjaa.Fn
namespace Go.Proofs.Ytmjhnmdmopmfjaa.Fn
open Go.RowKit Go.Proofs.YtmjhnmdmopmfjaaW.PrintWords Go.Proofs.YtmjhnmdmopmfjaaW.PrintLast Go.Proofs.YtmjhnmdmopmfjaaW.PrintMore
attribute [local go_sem] max2_int min2_int max_two min_two max_three min_three max_four min_four
set_option linter.unusedVariables false
set_option linter.unusedSimpArgs false
attribute [local go_sem high] eqA44
def conf_Channel_64.l0 : Nat → List (S44) → List (S44) → Int → Int → Option (Bool)
 | 0, _, _, _, _ => none
 | k + 1, x0, x1, x12, x13 => if x13 < x12 then (if 0 ≤ x13 then (if x13 < (x0.length : Int) then (if x13 < (x1.length : Int) then (if (!(((rd_T44 x0 x13).f0) == ((rd_T44 x1 x13).f0)) || (!(((rd_T44 x0 x13).f1) == ((rd_T44 x1 x13).f1)) || (!(((rd_T44 x0 x13).f2) == ((rd_T44 x1 x13).f2)) || (!(((rd_T44 x0 x13).f3) == ((rd_T44 x1 x13).f3)))))) = true then (some false) else (conf_Channel_64.l0 k x0 x1 x12 (wrap64 (x13 + 1)))) else (none)) else (none)) else (none)) else (some true)
def conf_Channel_64.f (k : Nat) (l0 : List (S44)) (l1 : List (S44)) : Option (Bool) := if (l0.length : Int) = (l1.length : Int) then (conf_Channel_64.l0 k l0 l1 (l0.length : Int) 0) else (some false)
end Go.Proofs.Ytmjhnmdmopmfjaa.Fn
namespace Go.Proofs.Ytmjhnmdmopmfjaa.Fn
open Go.RowKit Go.Proofs.YtmjhnmdmopmfjaaW.PrintWords Go.Proofs.YtmjhnmdmopmfjaaW.PrintLast Go.Proofs.YtmjhnmdmopmfjaaW.PrintMore
attribute [local go_sem] max2_int min2_int max_two min_two max_three min_three max_four min_four
set_option linter.unusedVariables false
set_option linter.unusedSimpArgs false
def conf_Same.f (k : Nat) (a0_0 : Int) (a0_1 : Int) (l0_2 : List (S42)) (l0_3 : List (S49)) (l0_4 : List (S44)) (a1_0 : Int) (a1_1 : Int) (l1_2 : List (S42)) (l1_3 : List (S49)) (l1_4 : List (S44)) : Option (Bool) := if a0_0 = a1_0 then (if a0_1 = a1_1 then ((conf_Window_61.f k l0_2 l1_2).bind fun t408 => (if t408 = true then ((conf_Part_62.f k l0_3 l1_3).bind fun t409 => (if t409 = true then ((conf_Channel_64.f k l0_4 l1_4).bind fun t410 => (some t410)) else (some false))) else (some false))) else (some false)) else (some false)
end Go.Proofs.Ytmjhnmdmopmfjaa.Fn
namespace Go.Proofs.Ytmjhnmdmopmfjaa.Fn
open Go.RowKit Go.Proofs.YtmjhnmdmopmfjaaW.PrintWords Go.Proofs.YtmjhnmdmopmfjaaW.PrintLast Go.Proofs.YtmjhnmdmopmfjaaW.PrintMore
set_option linter.unusedVariables false
set_option linter.unusedSimpArgs false
def EvIf (P : Prop) (g : Nat → Option Bool) (r : Bool) : Prop := (P → Ev g r) ∧ (¬ P → Ev g false)
theorem EvIf.iff {P Q : Prop} {g : Nat → Option Bool} {r : Bool} (h : EvIf P g r) (e : P ↔ Q) : EvIf Q g r := ⟨fun q => h.1 (e.2 q), fun q => h.2 (fun p => q (e.1 p))⟩
theorem EvIf.congr {P : Prop} {g f : Nat → Option Bool} {r : Bool} (e : ∀ k, g k = f k) (h : EvIf P f r) : EvIf P g r := ⟨fun p => Ev.congr e (h.1 p), fun p => Ev.congr e (h.2 p)⟩
theorem EvIf.ite {P Q : Prop} [Decidable P] {f : Nat → Option Bool} (h2 : P → EvIf Q f true) : EvIf (P ∧ Q) (fun k => if P then f k else some false) true := by
 by_cases hp : P
 ·exact EvIf.congr (fun k => if_pos hp) ((h2 hp).iff ⟨fun q => ⟨hp, q⟩, fun q => q.2⟩)
 ·exact ⟨fun p => absurd p.1 hp, fun _ => Ev.some_ (fun k => if_neg hp)⟩
theorem cmp_loop {α : Type} (g : Nat → Nat → Option Bool) (xs ys : List α) (hl : xs.length = ys.length) (r : Bool) (hend : Ev (fun k => g k xs.length) r)
  (hstep : ∀ i (h : i < xs.length) (h' : i < ys.length), (xs[i] = ys[i] → ∀ s, Ev (fun k => g k (i + 1)) s → Ev (fun k => g k i) s) ∧ (xs[i] ≠ ys[i] → Ev (fun k => g k i) false)) :
  ∀ d i, xs.length - i = d → i ≤ xs.length → EvIf (xs.drop i = ys.drop i) (fun k => g k i) r := by
 intro d
 induction d with
 | zero =>
  intro i hd hi
  obtain rfl : i = xs.length := by omega
  refine ⟨fun _ => hend, fun h => absurd ?_ h⟩
  rw [List.drop_length, hl, List.drop_length]
 | succ d ih =>
  intro i hd hi
  have hlt : i < xs.length := by omega
  have hlt' : i < ys.length := by omega
  obtain ⟨h1, h2⟩ := ih (i + 1) (by omega) (by omega)
  obtain ⟨s1, s2⟩ := hstep i hlt hlt'
  rw [List.drop_eq_getElem_cons hlt, List.drop_eq_getElem_cons hlt']
  refine ⟨fun h => ?_, fun h => ?_⟩
  ·injection h with ha hb
   exact s1 ha _ (h1 hb)
  ·by_cases ha : xs[i] = ys[i]
   ·exact s1 ha _ (h2 (fun hb => h (by rw [ha, hb])))
   ·exact s2 ha
theorem cmp_whole {α : Type} (g : Nat → Nat → Option Bool) (xs ys : List α) (hl : xs.length = ys.length) (r : Bool) (hend : Ev (fun k => g k xs.length) r)
  (hstep : ∀ i (h : i < xs.length) (h' : i < ys.length), (xs[i] = ys[i] → ∀ s, Ev (fun k => g k (i + 1)) s → Ev (fun k => g k i) s) ∧ (xs[i] ≠ ys[i] → Ev (fun k => g k i) false)) : EvIf (xs = ys) (fun k => g k 0) r := by
 have := cmp_loop g xs ys hl r hend hstep xs.length 0 (by omega) (by omega)
 simpa using this
noncomputable instance : DecidableEq S42 := fun a b => Classical.propDecidable (a = b)
noncomputable instance : DecidableEq S44 := fun a b => Classical.propDecidable (a = b)
noncomputable instance : DecidableEq S51 := fun a b => Classical.propDecidable (a = b)
noncomputable instance : DecidableEq S53 := fun a b => Classical.propDecidable (a = b)
noncomputable instance : DecidableEq S56 := fun a b => Classical.propDecidable (a = b)
theorem ne_S56 (x y : S56) : (!(x.f0 == y.f0) || (!(x.f1 == y.f1) || (!(x.f2 == y.f2) || (!(x.f3 == y.f3) || (!(x.f4 == y.f4) || (!(x.f5 == y.f5))))))) = true ↔ x ≠ y := by
 cases x; cases y
 simp only [ne_eq, S56.mk.injEq, Bool.or_eq_true, Bool.not_eq_true', beq_eq_false_iff_ne]
 exact ⟨fun h e => by simp_all, fun h => by
  apply Classical.byContradiction
  intro hn
  simp only [not_or, Classical.not_not] at hn
  exact h (by simp_all)⟩
noncomputable instance : DecidableEq S57 := fun a b => Classical.propDecidable (a = b)
theorem ne_S57 (x y : S57) : (!(x.f0 == y.f0) || (!(x.f1 == y.f1) || (!(x.f2 == y.f2)))) = true ↔ x ≠ y := by
 cases x; cases y
 simp only [ne_eq, S57.mk.injEq, Bool.or_eq_true, Bool.not_eq_true', beq_eq_false_iff_ne]
 exact ⟨fun h e => by simp_all, fun h => by
  apply Classical.byContradiction
  intro hn
  simp only [not_or, Classical.not_not] at hn
  exact h (by simp_all)⟩
noncomputable instance : DecidableEq S77 := fun a b => Classical.propDecidable (a = b)
theorem ne_S77 (x y : S77) : (!(x.f0 == y.f0) || (!(x.f1 == y.f1) || (!(x.f2 == y.f2)))) = true ↔ x ≠ y := by
 cases x; cases y
 simp only [ne_eq, S77.mk.injEq, Bool.or_eq_true, Bool.not_eq_true', beq_eq_false_iff_ne]
 exact ⟨fun h e => by simp_all, fun h => by
  apply Classical.byContradiction
  intro hn
  simp only [not_or, Classical.not_not] at hn
  exact h (by simp_all)⟩
noncomputable instance : DecidableEq S78 := fun a b => Classical.propDecidable (a = b)
theorem ne_S78 (x y : S78) : (!(x.f0 == y.f0) || (!(x.f1 == y.f1) || (!(x.f2 == y.f2) || (!(x.f3 == y.f3))))) = true ↔ x ≠ y := by
 cases x; cases y
 simp only [ne_eq, S78.mk.injEq, Bool.or_eq_true, Bool.not_eq_true', beq_eq_false_iff_ne]
 exact ⟨fun h e => by simp_all, fun h => by
  apply Classical.byContradiction
  intro hn
  simp only [not_or, Classical.not_not] at hn
  exact h (by simp_all)⟩
theorem eq_S61 (p q : S61) : p = q ↔ p.f0 = q.f0 ∧ p.f1 = q.f1 ∧ p.f2 = q.f2 ∧ p.f3 = q.f3 := by cases p; cases q; simp
theorem eq_S47 (p q : S47) : (p.f0 == q.f0 && (p.f1 == q.f1 && (p.f2 == q.f2))) = true ↔ p = q := by cases p; cases q; simp
section
variable (t0 : List S56) (t1 : List S57) (t2 : List Int) (p q r : Int) (u0 : List S56) (u1 : List S57) (u2 : List Int) (p' q' r' : Int)
theorem sp_l2 (hb : t2.length < 1000) (hl : t2.length = u2.length) : EvIf (t2 = u2) (fun k => parcloseref03_samePart.l2 k ((0 : Nat) : Int) t0 t1 t2 p q r u0 u1 u2 p' q' r') true := by
 refine cmp_whole (fun k i => parcloseref03_samePart.l2 k (i : Int) t0 t1 t2 p q r u0 u1 u2 p' q' r') t2 u2 hl true ?_ ?_
 ·exact Ev.step (f := fun _ => some true) (fun k => by simp only [parcloseref03_samePart.l2]; rw [if_neg (by omega)]) (Ev.now _)
 ·intro i h h'
  have st : ∀ k, parcloseref03_samePart.l2 (k + 1) (i : Int) t0 t1 t2 p q r u0 u1 u2 p' q' r' = if t2[i] = u2[i] then parcloseref03_samePart.l2 k ((i + 1 : Nat) : Int) t0 t1 t2 p q r u0 u1 u2 p' q' r' else some false := by
   intro k
   simp only [parcloseref03_samePart.l2]
   rw [if_pos (by omega), if_pos (by omega), if_pos (by omega), show rd t2 (i : Int) = t2[i] from getD_nat t2 i _ h, show rd u2 (i : Int) = u2[i] from getD_nat u2 i _ h', wrap_nat (by omega)]
  exact ⟨fun e s hs => Ev.step (fun k => by rw [st, if_pos e]) hs, fun e => Ev.step (f := fun _ => some false) (fun k => by rw [st, if_neg e]) (Ev.now _)⟩
theorem sp_l1 (hb : t2.length < 1000) (hl : t2.length = u2.length) (hb_t1 : t1.length < 1000) (hl_t1 : t1.length = u1.length) : EvIf (t1 = u1 ∧ t2 = u2) (fun k => parcloseref03_samePart.l1 k ((0 : Nat) : Int) t0 t1 t2 p q r u0 u1 u2 p' q' r') true := by
 have hn := sp_l2 t0 t1 t2 p q r u0 u1 u2 p' q' r' hb hl
 have fin : ∀ s, Ev (fun k => parcloseref03_samePart.l2 k ((0 : Nat) : Int) t0 t1 t2 p q r u0 u1 u2 p' q' r') s → EvIf (t1 = u1) (fun k => parcloseref03_samePart.l1 k ((0 : Nat) : Int) t0 t1 t2 p q r u0 u1 u2 p' q' r') s := by
  intro s hs
  refine cmp_whole (fun k i => parcloseref03_samePart.l1 k (i : Int) t0 t1 t2 p q r u0 u1 u2 p' q' r') t1 u1 hl_t1 s ?_ ?_
  ·exact Ev.step (fun k => by simp only [parcloseref03_samePart.l1]; rw [if_neg (by omega)]; rfl) hs
  ·intro i h h'
   have st : ∀ k, parcloseref03_samePart.l1 (k + 1) (i : Int) t0 t1 t2 p q r u0 u1 u2 p' q' r' = if t1[i] ≠ u1[i] then some false else parcloseref03_samePart.l1 k ((i + 1 : Nat) : Int) t0 t1 t2 p q r u0 u1 u2 p' q' r' := by
    intro k
    simp only [parcloseref03_samePart.l1]
    rw [if_pos (by omega), if_pos (by omega), if_pos (by omega), show rd_T57 t1 (i : Int) = t1[i] from getD_nat t1 i _ h, show rd_T57 u1 (i : Int) = u1[i] from getD_nat u1 i _ h', wrap_nat (by omega)]
    by_cases e : t1[i] = u1[i]
    ·rw [if_neg (fun hh => (ne_S57 _ _).1 hh e), if_neg (fun hh => hh e)]
    ·rw [if_pos ((ne_S57 _ _).2 e), if_pos e]
   exact ⟨fun e s hs => Ev.step (fun k => by rw [st, if_neg (fun hh => hh e)]) hs, fun e => Ev.step (f := fun _ => some false) (fun k => by rw [st, if_pos e]) (Ev.now _)⟩
 by_cases hc : t2 = u2
 ·have h := fin true (hn.1 hc)
  exact h.iff ⟨fun e => ⟨e, hc⟩, fun e => e.1⟩
 ·have h := fin false (hn.2 hc)
  exact ⟨fun e => absurd e.2 hc, fun _ => by
   by_cases e : t1 = u1
   ·exact h.1 e
   ·exact h.2 e⟩
theorem sp_l0 (hb : t2.length < 1000) (hl : t2.length = u2.length) (hb_t1 : t1.length < 1000) (hl_t1 : t1.length = u1.length) (hb_t0 : t0.length < 1000) (hl_t0 : t0.length = u0.length) : EvIf (t0 = u0 ∧ t1 = u1 ∧ t2 = u2) (fun k => parcloseref03_samePart.l0 k ((0 : Nat) : Int) t0 t1 t2 p q r u0 u1 u2 p' q' r') true := by
 have hn := sp_l1 t0 t1 t2 p q r u0 u1 u2 p' q' r' hb hl hb_t1 hl_t1
 have fin : ∀ s, Ev (fun k => parcloseref03_samePart.l1 k ((0 : Nat) : Int) t0 t1 t2 p q r u0 u1 u2 p' q' r') s → EvIf (t0 = u0) (fun k => parcloseref03_samePart.l0 k ((0 : Nat) : Int) t0 t1 t2 p q r u0 u1 u2 p' q' r') s := by
  intro s hs
  refine cmp_whole (fun k i => parcloseref03_samePart.l0 k (i : Int) t0 t1 t2 p q r u0 u1 u2 p' q' r') t0 u0 hl_t0 s ?_ ?_
  ·exact Ev.step (fun k => by simp only [parcloseref03_samePart.l0]; rw [if_neg (by omega)]; rfl) hs
  ·intro i h h'
   have st : ∀ k, parcloseref03_samePart.l0 (k + 1) (i : Int) t0 t1 t2 p q r u0 u1 u2 p' q' r' = if t0[i] ≠ u0[i] then some false else parcloseref03_samePart.l0 k ((i + 1 : Nat) : Int) t0 t1 t2 p q r u0 u1 u2 p' q' r' := by
    intro k
    simp only [parcloseref03_samePart.l0]
    rw [if_pos (by omega), if_pos (by omega), if_pos (by omega), show rd_T56 t0 (i : Int) = t0[i] from getD_nat t0 i _ h, show rd_T56 u0 (i : Int) = u0[i] from getD_nat u0 i _ h', wrap_nat (by omega)]
    by_cases e : t0[i] = u0[i]
    ·rw [if_neg (fun hh => (ne_S56 _ _).1 hh e), if_neg (fun hh => hh e)]
    ·rw [if_pos ((ne_S56 _ _).2 e), if_pos e]
   exact ⟨fun e s hs => Ev.step (fun k => by rw [st, if_neg (fun hh => hh e)]) hs, fun e => Ev.step (f := fun _ => some false) (fun k => by rw [st, if_pos e]) (Ev.now _)⟩
 by_cases hc : t1 = u1 ∧ t2 = u2
 ·have h := fin true (hn.1 hc)
  exact h.iff ⟨fun e => ⟨e, hc⟩, fun e => e.1⟩
 ·have h := fin false (hn.2 hc)
  exact ⟨fun e => absurd e.2 hc, fun _ => by
   by_cases e : t0 = u0
   ·exact h.1 e
   ·exact h.2 e⟩
end
theorem samePart_ev (x y : S61) (hf : fewP x) : EvIf (x = y) (fun k => parcloseref03_samePart.f k x.f0 x.f1 x.f2 x.f3.f0 x.f3.f1 x.f3.f2 y.f0 y.f1 y.f2 y.f3.f0 y.f3.f1 y.f3.f2) true := by
 have no : x ≠ y → Ev (fun k => parcloseref03_samePart.j0 k true x.f0 x.f1 x.f2 x.f3.f0 x.f3.f1 x.f3.f2 y.f0 y.f1 y.f2 y.f3.f0 y.f3.f1 y.f3.f2) false := fun _ => Ev.step (f := fun _ => some false) (fun k => by simp only [parcloseref03_samePart.j0]; rw [if_pos trivial]) (Ev.now _)
 by_cases e0 : x.f0.length = y.f0.length
 case neg => exact ⟨fun e => absurd (by rw [e]) e0, fun e => Ev.congr (fun k => by unfold parcloseref03_samePart.f; rw [if_neg (by omega)]) (no e)⟩
 by_cases e1 : x.f1.length = y.f1.length
 case neg => exact ⟨fun e => absurd (by rw [e]) e1, fun e => Ev.congr (fun k => by unfold parcloseref03_samePart.f; rw [if_pos (by omega), if_neg (by omega)]) (no e)⟩
 by_cases e2 : x.f2.length = y.f2.length
 case neg => exact ⟨fun e => absurd (by rw [e]) e2, fun e => Ev.congr (fun k => by unfold parcloseref03_samePart.f; rw [if_pos (by omega), if_pos (by omega), if_neg (by omega)]) (no e)⟩
 refine EvIf.congr (fun k => by unfold parcloseref03_samePart.f; rw [if_pos (by omega), if_pos (by omega), if_pos (by omega)]) ?_
 by_cases e3 : x.f3 = y.f3
 ·have t : (!(x.f3.f0 == y.f3.f0) || (!(x.f3.f1 == y.f3.f1) || (!(x.f3.f2 == y.f3.f2)))) = false := by rw [e3]; simp
  have h := sp_l0 x.f0 x.f1 x.f2 x.f3.f0 x.f3.f1 x.f3.f2 y.f0 y.f1 y.f2 y.f3.f0 y.f3.f1 y.f3.f2 (by have := hf.2.2; omega) e2 (by have := hf.2.1; omega) e1 (by have := hf.1; omega) e0
  have h2 := h.iff (Q := x = y) (by rw [eq_S61]; exact ⟨fun e => ⟨e.1, e.2.1, e.2.2, e3⟩, fun e => ⟨e.1, e.2.1, e.2.2.1⟩⟩)
  rw [t]
  exact ⟨fun e => Ev.step (fun k => by simp only [parcloseref03_samePart.j0]; rw [if_neg (by decide)]; rfl) (h2.1 e), fun e => Ev.step (fun k => by simp only [parcloseref03_samePart.j0]; rw [if_neg (by decide)]; rfl) (h2.2 e)⟩
 ·have t : (!(x.f3.f0 == y.f3.f0) || (!(x.f3.f1 == y.f3.f1) || (!(x.f3.f2 == y.f3.f2)))) = true := by
   cases hb : (!(x.f3.f0 == y.f3.f0) || (!(x.f3.f1 == y.f3.f1) || (!(x.f3.f2 == y.f3.f2)))) with
   | true => rfl
   | false => exact absurd ((eq_S47 _ _).1 (by simp only [Bool.or_eq_false_iff, Bool.not_eq_false'] at hb; simp only [Bool.and_eq_true]; exact hb)) e3
  rw [t]
  exact ⟨fun e => absurd (by rw [e]) e3, no⟩
section
variable (a b : Int) (l2 : List S77) (l3 : List S61) (l4 : List S78) (a' b' : Int) (l2' : List S77) (l3' : List S61) (l4' : List S78)
theorem rs_l2 (hb : l4.length < 1000) (hl : l4.length = l4'.length) : EvIf (l4 = l4') (fun k => parcloseref03_Same.l2 k ((0 : Nat) : Int) a b l2 l3 l4 a' b' l2' l3' l4') true := by
 refine cmp_whole (fun k i => parcloseref03_Same.l2 k (i : Int) a b l2 l3 l4 a' b' l2' l3' l4') l4 l4' hl true ?_ ?_
 ·exact Ev.step (f := fun _ => some true) (fun k => by simp only [parcloseref03_Same.l2]; rw [if_neg (by omega)]) (Ev.now _)
 ·intro i h h'
  have st : ∀ k, parcloseref03_Same.l2 (k + 1) (i : Int) a b l2 l3 l4 a' b' l2' l3' l4' = if l4[i] ≠ l4'[i] then some false else parcloseref03_Same.l2 k ((i + 1 : Nat) : Int) a b l2 l3 l4 a' b' l2' l3' l4' := by
   intro k
   simp only [parcloseref03_Same.l2]
   rw [if_pos (by omega), if_pos (by omega), if_pos (by omega), show rd_T78 l4 (i : Int) = l4[i] from getD_nat l4 i _ h, show rd_T78 l4' (i : Int) = l4'[i] from getD_nat l4' i _ h', wrap_nat (by omega)]
   by_cases e : l4[i] = l4'[i]
   ·rw [if_neg (fun hh => (ne_S78 _ _).1 hh e), if_neg (fun hh => hh e)]
   ·rw [if_pos ((ne_S78 _ _).2 e), if_pos e]
  exact ⟨fun e s hs => Ev.step (fun k => by rw [st, if_neg (fun hh => hh e)]) hs, fun e => Ev.step (f := fun _ => some false) (fun k => by rw [st, if_pos e]) (Ev.now _)⟩
theorem rs_l1 (hb : l4.length < 1000) (hl : l4.length = l4'.length) (hb_l3 : l3.length < 1000) (hl_l3 : l3.length = l3'.length) (hf : ∀ p ∈ l3, fewP p) : EvIf (l3 = l3' ∧ l4 = l4') (fun k => parcloseref03_Same.l1 k ((0 : Nat) : Int) a b l2 l3 l4 a' b' l2' l3' l4') true := by
 have hn := rs_l2 a b l2 l3 l4 a' b' l2' l3' l4' hb hl
 have fin : ∀ s, Ev (fun k => parcloseref03_Same.l2 k ((0 : Nat) : Int) a b l2 l3 l4 a' b' l2' l3' l4') s → EvIf (l3 = l3') (fun k => parcloseref03_Same.l1 k ((0 : Nat) : Int) a b l2 l3 l4 a' b' l2' l3' l4') s := by
  intro s hs
  refine cmp_whole (fun k i => parcloseref03_Same.l1 k (i : Int) a b l2 l3 l4 a' b' l2' l3' l4') l3 l3' hl_l3 s ?_ ?_
  ·exact Ev.step (fun k => by simp only [parcloseref03_Same.l1]; rw [if_neg (by omega)]; rfl) hs
  ·intro i h h'
   have sm := samePart_ev l3[i] l3'[i] (hf _ (List.getElem_mem h))
   refine ⟨fun e s hs => ?_, fun e => ?_⟩
   ·refine Ev.step (fun k => by simp only [parcloseref03_Same.l1]; rw [if_pos (by omega), if_pos (by omega), if_pos (by omega), show rd_T61 l3 (i : Int) = l3[i] from getD_nat l3 i _ h, show rd_T61 l3' (i : Int) = l3'[i] from getD_nat l3' i _ h', wrap_nat (by omega)]) ?_
    exact Ev.bind (sm.1 e) (Ev.congr (fun k => by rw [if_pos rfl]) hs)
   ·refine Ev.step (fun k => by simp only [parcloseref03_Same.l1]; rw [if_pos (by omega), if_pos (by omega), if_pos (by omega), show rd_T61 l3 (i : Int) = l3[i] from getD_nat l3 i _ h, show rd_T61 l3' (i : Int) = l3'[i] from getD_nat l3' i _ h', wrap_nat (by omega)]) ?_
    exact Ev.bind (sm.2 e) (Ev.some_ (fun k => by simp))
 by_cases hc : l4 = l4'
 ·have h := fin true (hn.1 hc)
  exact h.iff ⟨fun e => ⟨e, hc⟩, fun e => e.1⟩
 ·have h := fin false (hn.2 hc)
  exact ⟨fun e => absurd e.2 hc, fun _ => by
   by_cases e : l3 = l3'
   ·exact h.1 e
   ·exact h.2 e⟩
theorem rs_l0 (hb : l4.length < 1000) (hl : l4.length = l4'.length) (hb_l3 : l3.length < 1000) (hl_l3 : l3.length = l3'.length) (hf : ∀ p ∈ l3, fewP p) (hb_l2 : l2.length < 1000) (hl_l2 : l2.length = l2'.length) : EvIf (l2 = l2' ∧ l3 = l3' ∧ l4 = l4') (fun k => parcloseref03_Same.l0 k ((0 : Nat) : Int) a b l2 l3 l4 a' b' l2' l3' l4') true := by
 have hn := rs_l1 a b l2 l3 l4 a' b' l2' l3' l4' hb hl hb_l3 hl_l3 hf
 have fin : ∀ s, Ev (fun k => parcloseref03_Same.l1 k ((0 : Nat) : Int) a b l2 l3 l4 a' b' l2' l3' l4') s → EvIf (l2 = l2') (fun k => parcloseref03_Same.l0 k ((0 : Nat) : Int) a b l2 l3 l4 a' b' l2' l3' l4') s := by
  intro s hs
  refine cmp_whole (fun k i => parcloseref03_Same.l0 k (i : Int) a b l2 l3 l4 a' b' l2' l3' l4') l2 l2' hl_l2 s ?_ ?_
  ·exact Ev.step (fun k => by simp only [parcloseref03_Same.l0]; rw [if_neg (by omega)]; rfl) hs
  ·intro i h h'
   have st : ∀ k, parcloseref03_Same.l0 (k + 1) (i : Int) a b l2 l3 l4 a' b' l2' l3' l4' = if l2[i] ≠ l2'[i] then some false else parcloseref03_Same.l0 k ((i + 1 : Nat) : Int) a b l2 l3 l4 a' b' l2' l3' l4' := by
    intro k
    simp only [parcloseref03_Same.l0]
    rw [if_pos (by omega), if_pos (by omega), if_pos (by omega), show rd_T77 l2 (i : Int) = l2[i] from getD_nat l2 i _ h, show rd_T77 l2' (i : Int) = l2'[i] from getD_nat l2' i _ h', wrap_nat (by omega)]
    by_cases e : l2[i] = l2'[i]
    ·rw [if_neg (fun hh => (ne_S77 _ _).1 hh e), if_neg (fun hh => hh e)]
    ·rw [if_pos ((ne_S77 _ _).2 e), if_pos e]
   exact ⟨fun e s hs => Ev.step (fun k => by rw [st, if_neg (fun hh => hh e)]) hs, fun e => Ev.step (f := fun _ => some false) (fun k => by rw [st, if_pos e]) (Ev.now _)⟩
 by_cases hc : l3 = l3' ∧ l4 = l4'
 ·have h := fin true (hn.1 hc)
  exact h.iff ⟨fun e => ⟨e, hc⟩, fun e => e.1⟩
 ·have h := fin false (hn.2 hc)
  exact ⟨fun e => absurd e.2 hc, fun _ => by
   by_cases e : l2 = l2'
   ·exact h.1 e
   ·exact h.2 e⟩
theorem RSame_ev (hb : l4.length < 1000) (hb_l3 : l3.length < 1000) (hf : ∀ p ∈ l3, fewP p) (hb_l2 : l2.length < 1000) : EvIf (a = a' ∧ b = b' ∧ l2 = l2' ∧ l3 = l3' ∧ l4 = l4') (fun k => parcloseref03_Same.f k a b l2 l3 l4 a' b' l2' l3' l4') true := by
 have no : Ev (fun k => parcloseref03_Same.j0 k true a b l2 l3 l4 a' b' l2' l3' l4') false := Ev.step (f := fun _ => some false) (fun k => by simp only [parcloseref03_Same.j0]; rw [if_pos trivial]) (Ev.now _)
 by_cases e0 : a = a'
 case neg => exact ⟨fun e => absurd e.1 e0, fun e => Ev.congr (fun k => by unfold parcloseref03_Same.f; rw [if_neg e0]) no⟩
 by_cases e1 : b = b'
 case neg => exact ⟨fun e => absurd e.2.1 e1, fun e => Ev.congr (fun k => by unfold parcloseref03_Same.f; rw [if_pos e0, if_neg e1]) no⟩
 by_cases e2 : l2.length = l2'.length
 case neg => exact ⟨fun e => absurd (by rw [e.2.2.1]) e2, fun e => Ev.congr (fun k => by unfold parcloseref03_Same.f; rw [if_pos e0, if_pos e1, if_neg (by omega)]) no⟩
 by_cases e3 : l3.length = l3'.length
 case neg => exact ⟨fun e => absurd (by rw [e.2.2.2.1]) e3, fun e => Ev.congr (fun k => by unfold parcloseref03_Same.f; rw [if_pos e0, if_pos e1, if_pos (by omega), if_neg (by omega)]) no⟩
 refine EvIf.congr (fun k => by unfold parcloseref03_Same.f; rw [if_pos e0, if_pos e1, if_pos (by omega), if_pos (by omega)]) ?_
 by_cases e4 : l4.length = l4'.length
 ·have t : ((l4.length : Int) != (l4'.length : Int)) = false := by rw [e4]; simp
  rw [t]
  have h := (rs_l0 a b l2 l3 l4 a' b' l2' l3' l4' hb e4 hb_l3 e3 hf hb_l2 e2).iff (Q := a = a' ∧ b = b' ∧ l2 = l2' ∧ l3 = l3' ∧ l4 = l4') ⟨fun e => ⟨e0, e1, e⟩, fun e => e.2.2⟩
  exact ⟨fun e => Ev.step (fun k => by simp only [parcloseref03_Same.j0]; rw [if_neg (by decide)]; rfl) (h.1 e), fun e => Ev.step (fun k => by simp only [parcloseref03_Same.j0]; rw [if_neg (by decide)]; rfl) (h.2 e)⟩
 ·have t : ((l4.length : Int) != (l4'.length : Int)) = true := by simp; omega
  rw [t]
  exact ⟨fun e => absurd (by rw [e.2.2.2.2]) e4, fun _ => no⟩
end
end Go.Proofs.Ytmjhnmdmopmfjaa.Fn
namespace Go.Proofs.Ytmjhnmdmopmfjaa.Fn
open Go.RowKit Go.Proofs.YtmjhnmdmopmfjaaW.PrintWords Go.Proofs.YtmjhnmdmopmfjaaW.PrintLast Go.Proofs.YtmjhnmdmopmfjaaW.PrintMore
set_option linter.unusedVariables false
set_option linter.unusedSimpArgs false
def Opens (P : Program) (t : TypeId) {α : Type} (d : Kd α) (Q : α → Prop) : Prop :=
 ∀ (H : Type) (enc : TypeId × Value → H) (w : World) (base : Nat) (spare : Nat → Bool) (held : Bool) (fuel : Nat) (cs : List Value) (x : DataW H × List MemPlace),
  DataW.trod enc P w base spare held fuel t cs = some x → ∃ a : α, d.K w a cs ∧ Q a
def qInt (k : IntKind) (n : Int) : Prop := (Lit.int k n).wf = true
def qAny {α : Type} (_ : α) : Prop := True
def qStr (s : ByteArray) : Prop := s.size ≤ maxLen
def qList {α : Type} (Q : α → Prop) (xs : List α) : Prop := xs.length ≤ maxLen ∧ ∀ x ∈ xs, Q x
theorem opens_int {P : Program} {t : TypeId} {k : IntKind} (ht : P.underlying t = some (.int k)) : Opens P t (Kd.int k) (qInt k) := by
 intro H enc w base spare held fuel cs x h
 obtain ⟨n, e, _, hw⟩ := DataW.trod_int ht h
 exact ⟨n, e, hw⟩
theorem opens_bool {P : Program} {t : TypeId} (ht : P.underlying t = some .bool) : Opens P t Kd.bool qAny := by
 intro H enc w base spare held fuel cs x h
 obtain ⟨n, e, _⟩ := DataW.trod_bool ht h
 exact ⟨n, e, trivial⟩
theorem list_of {α : Type} {p : Nat → α → Prop} : ∀ n, (∀ i, i < n → ∃ a, p i a) → ∃ xs : List α, xs.length = n ∧ ∀ i a, xs[i]? = some a → p i a
 | 0, _ => ⟨[], rfl, fun i a h => by simp at h⟩
 | n + 1, h => by
  obtain ⟨xs, hl, hx⟩ := list_of n (fun i hi => h i (by omega))
  obtain ⟨a, ha⟩ := h n (by omega)
  refine ⟨xs ++ [a], by simp [hl], fun i b hb => ?_⟩
  rcases Nat.lt_trichotomy i n with hi | hi | hi
  ·rw [List.getElem?_append_left (by omega)] at hb
   exact hx i b hb
  ·subst hi
   rw [← hl] at hb
   simp at hb
   subst hb
   rw [hl] at *
   exact ha
  ·rw [List.getElem?_eq_none (by simp [hl]; omega)] at hb
   cases hb
theorem opens_slice {P : Program} {t e : TypeId} {α : Type} {d : Kd α} {Q : α → Prop} (ht : P.underlying t = some (.slice e)) (hc : P.cellsOf e = d.sz) (ho : Opens P e d Q) : Opens P t (Kd.slice e d) (qList Q) := by
 intro H enc w base spare held fuel cs x h
 rcases Go.Deep.open_slice ht h with ⟨rfl, _⟩ | ⟨a, len, cap, m, n, D, Pl, rfl, _, hl, hm, hmm, _, hx⟩
 ·exact ⟨[], ⟨none, 0, rfl, Nat.le_refl _, Kd.C_nil _ _⟩, by simp, fun x hx => by cases hx⟩
 ·have hlm : len ≤ m := by rw [hmm]; split <;> omega
  obtain ⟨xs, hxl, hxs⟩ := list_of (p := fun i a' => ∃ cs', w.cells? base (a.add (i * P.cellsOf e)) (P.cellsOf e) = some cs' ∧ d.K w a' cs' ∧ Q a') len (fun i hi => by
   obtain ⟨cs', h1, h2⟩ := hx i (by omega)
   obtain ⟨a', h3, h4⟩ := ho H enc w base spare held n cs' _ h2
   exact ⟨a', cs', h1, h3, h4⟩)
  refine ⟨xs, ⟨some a, cap, by rw [hxl], by omega, ?_⟩, by omega, fun x hx => ?_⟩
  ·refine ⟨rfl, by rw [hxl]; unfold maxLen at hm; omega, fun _ => ⟨a, rfl, ?_⟩⟩
   intro j p hp
   obtain ⟨cs', h1, h2, _⟩ := hxs j p hp
   obtain ⟨_, hcl, hci⟩ := World.cells?_some h1
   refine ⟨cs', by rw [hcl, hc], h2, fun i u hu => ?_⟩
   have hi : i < cs'.length := (List.getElem?_eq_some_iff.1 hu).1
   have h4 := hci i (by omega)
   rw [hu, Go.Deep.add_add, hc] at h4
   exact h4
  ·obtain ⟨i, hi, rfl⟩ := List.mem_iff_getElem.1 hx
   obtain ⟨_, _, _, hq⟩ := hxs i _ (List.getElem?_eq_getElem hi)
   exact hq
end Go.Proofs.Ytmjhnmdmopmfjaa.Fn
namespace Go.Proofs.Ytmjhnmdmopmfjaa.Fn
open Go.RowKit Go.Proofs.YtmjhnmdmopmfjaaW.PrintWords Go.Proofs.YtmjhnmdmopmfjaaW.PrintLast Go.Proofs.YtmjhnmdmopmfjaaW.PrintMore
attribute [local go_sem] max2_int min2_int max_two min_two max_three min_three max_four min_four
set_option linter.unusedVariables false
set_option linter.unusedSimpArgs false
open Go.ChangeShapes Go.WideShapes
theorem cellsO3 : Try.prog.cellsOf 3 = 1 := by kernel_rfl
theorem cellsO77 : Try.prog.cellsOf 77 = 3 := by kernel_rfl
def q77 (x : S77) : Prop := (qInt .i64) x.f0 ∧ (qInt .i64) x.f1 ∧ (qInt .i64) x.f2
set_option maxRecDepth 100000 in
theorem opens77 : Opens Try.prog 77 k77 q77 := by
 intro H enc w base spare held fuel cs x h
 obtain ⟨xs, n, rfl, _, hlen, hxs, hf⟩ := DataW.trod_struct Try.underlying77 h
 rw [cellsO77] at hlen
 have g0 : DataW.trod enc Try.prog w base spare held n 3 ((cs.drop (0)).take (Try.prog.cellsOf 3)) = xs[0]? := hf 0 _ rfl
 rw [cellsO3] at g0
 obtain ⟨a0, K0', Q0⟩ := (opens_int Try.underlying3) H enc w base spare held n _ _ (g0.trans (List.getElem?_eq_getElem (by rw [hxs]; decide)))
 have g1 : DataW.trod enc Try.prog w base spare held n 3 ((cs.drop (1)).take (Try.prog.cellsOf 3)) = xs[1]? := hf 1 _ rfl
 rw [cellsO3] at g1
 obtain ⟨a1, K1', Q1⟩ := (opens_int Try.underlying3) H enc w base spare held n _ _ (g1.trans (List.getElem?_eq_getElem (by rw [hxs]; decide)))
 have g2 : DataW.trod enc Try.prog w base spare held n 3 ((cs.drop (2)).take (Try.prog.cellsOf 3)) = xs[2]? := hf 2 _ rfl
 rw [cellsO3] at g2
 obtain ⟨a2, K2', Q2⟩ := (opens_int Try.underlying3) H enc w base spare held n _ _ (g2.trans (List.getElem?_eq_getElem (by rw [hxs]; decide)))
 exact ⟨⟨a0, a1, a2⟩, ⟨_, _, (List.take_append_drop 1 _).symm, (by simpa only [List.drop_drop, List.drop_zero] using K0'), ⟨_, _, (List.take_append_drop 1 _).symm, (by simpa only [List.drop_drop, List.drop_zero] using K1'), (by have h_ := K2'; rw [List.take_of_length_le (by rw [List.length_drop]; omega)] at h_; simpa only [List.drop_drop, List.drop_zero] using h_)⟩⟩, Q0, Q1, Q2⟩
theorem cellsO4 : Try.prog.cellsOf 4 = 1 := by kernel_rfl
theorem cellsO56 : Try.prog.cellsOf 56 = 6 := by kernel_rfl
def q56 (x : S56) : Prop := qAny x.f0 ∧ (qInt .i64) x.f1 ∧ (qInt .i64) x.f2 ∧ (qInt .i64) x.f3 ∧ (qInt .i64) x.f4 ∧ (qInt .i64) x.f5
set_option maxRecDepth 100000 in
theorem opens56 : Opens Try.prog 56 k56 q56 := by
 intro H enc w base spare held fuel cs x h
 obtain ⟨xs, n, rfl, _, hlen, hxs, hf⟩ := DataW.trod_struct Try.underlying56 h
 rw [cellsO56] at hlen
 have g0 : DataW.trod enc Try.prog w base spare held n 4 ((cs.drop (0)).take (Try.prog.cellsOf 4)) = xs[0]? := hf 0 _ rfl
 rw [cellsO4] at g0
 obtain ⟨a0, K0', Q0⟩ := (opens_bool Try.underlying4) H enc w base spare held n _ _ (g0.trans (List.getElem?_eq_getElem (by rw [hxs]; decide)))
 have g1 : DataW.trod enc Try.prog w base spare held n 3 ((cs.drop (1)).take (Try.prog.cellsOf 3)) = xs[1]? := hf 1 _ rfl
 rw [cellsO3] at g1
 obtain ⟨a1, K1', Q1⟩ := (opens_int Try.underlying3) H enc w base spare held n _ _ (g1.trans (List.getElem?_eq_getElem (by rw [hxs]; decide)))
 have g2 : DataW.trod enc Try.prog w base spare held n 3 ((cs.drop (2)).take (Try.prog.cellsOf 3)) = xs[2]? := hf 2 _ rfl
 rw [cellsO3] at g2
 obtain ⟨a2, K2', Q2⟩ := (opens_int Try.underlying3) H enc w base spare held n _ _ (g2.trans (List.getElem?_eq_getElem (by rw [hxs]; decide)))
 have g3 : DataW.trod enc Try.prog w base spare held n 3 ((cs.drop (3)).take (Try.prog.cellsOf 3)) = xs[3]? := hf 3 _ rfl
 rw [cellsO3] at g3
 obtain ⟨a3, K3', Q3⟩ := (opens_int Try.underlying3) H enc w base spare held n _ _ (g3.trans (List.getElem?_eq_getElem (by rw [hxs]; decide)))
 have g4 : DataW.trod enc Try.prog w base spare held n 3 ((cs.drop (4)).take (Try.prog.cellsOf 3)) = xs[4]? := hf 4 _ rfl
 rw [cellsO3] at g4
 obtain ⟨a4, K4', Q4⟩ := (opens_int Try.underlying3) H enc w base spare held n _ _ (g4.trans (List.getElem?_eq_getElem (by rw [hxs]; decide)))
 have g5 : DataW.trod enc Try.prog w base spare held n 3 ((cs.drop (5)).take (Try.prog.cellsOf 3)) = xs[5]? := hf 5 _ rfl
 rw [cellsO3] at g5
 obtain ⟨a5, K5', Q5⟩ := (opens_int Try.underlying3) H enc w base spare held n _ _ (g5.trans (List.getElem?_eq_getElem (by rw [hxs]; decide)))
 exact ⟨⟨a0, a1, a2, a3, a4, a5⟩, ⟨_, _, (List.take_append_drop 1 _).symm, (by simpa only [List.drop_drop, List.drop_zero] using K0'), ⟨_, _, (List.take_append_drop 1 _).symm, (by simpa only [List.drop_drop, List.drop_zero] using K1'), ⟨_, _, (List.take_append_drop 1 _).symm, (by simpa only [List.drop_drop, List.drop_zero] using K2'), ⟨_, _, (List.take_append_drop 1 _).symm, (by simpa only [List.drop_drop, List.drop_zero] using K3'), ⟨_, _, (List.take_append_drop 1 _).symm, (by simpa only [List.drop_drop, List.drop_zero] using K4'), (by have h_ := K5'; rw [List.take_of_length_le (by rw [List.length_drop]; omega)] at h_; simpa only [List.drop_drop, List.drop_zero] using h_)⟩⟩⟩⟩⟩, Q0, Q1, Q2, Q3, Q4, Q5⟩
theorem cellsO57 : Try.prog.cellsOf 57 = 3 := by kernel_rfl
def q57 (x : S57) : Prop := qAny x.f0 ∧ (qInt .i64) x.f1 ∧ (qInt .i64) x.f2
set_option maxRecDepth 100000 in
theorem opens57 : Opens Try.prog 57 k57 q57 := by
 intro H enc w base spare held fuel cs x h
 obtain ⟨xs, n, rfl, _, hlen, hxs, hf⟩ := DataW.trod_struct Try.underlying57 h
 rw [cellsO57] at hlen
 have g0 : DataW.trod enc Try.prog w base spare held n 4 ((cs.drop (0)).take (Try.prog.cellsOf 4)) = xs[0]? := hf 0 _ rfl
 rw [cellsO4] at g0
 obtain ⟨a0, K0', Q0⟩ := (opens_bool Try.underlying4) H enc w base spare held n _ _ (g0.trans (List.getElem?_eq_getElem (by rw [hxs]; decide)))
 have g1 : DataW.trod enc Try.prog w base spare held n 3 ((cs.drop (1)).take (Try.prog.cellsOf 3)) = xs[1]? := hf 1 _ rfl
 rw [cellsO3] at g1
 obtain ⟨a1, K1', Q1⟩ := (opens_int Try.underlying3) H enc w base spare held n _ _ (g1.trans (List.getElem?_eq_getElem (by rw [hxs]; decide)))
 have g2 : DataW.trod enc Try.prog w base spare held n 3 ((cs.drop (2)).take (Try.prog.cellsOf 3)) = xs[2]? := hf 2 _ rfl
 rw [cellsO3] at g2
 obtain ⟨a2, K2', Q2⟩ := (opens_int Try.underlying3) H enc w base spare held n _ _ (g2.trans (List.getElem?_eq_getElem (by rw [hxs]; decide)))
 exact ⟨⟨a0, a1, a2⟩, ⟨_, _, (List.take_append_drop 1 _).symm, (by simpa only [List.drop_drop, List.drop_zero] using K0'), ⟨_, _, (List.take_append_drop 1 _).symm, (by simpa only [List.drop_drop, List.drop_zero] using K1'), (by have h_ := K2'; rw [List.take_of_length_le (by rw [List.length_drop]; omega)] at h_; simpa only [List.drop_drop, List.drop_zero] using h_)⟩⟩, Q0, Q1, Q2⟩
theorem cellsO5 : Try.prog.cellsOf 5 = 1 := by kernel_rfl
theorem cellsO47 : Try.prog.cellsOf 47 = 3 := by kernel_rfl
def q47 (x : S47) : Prop := (qInt .u8) x.f0 ∧ (qInt .u8) x.f1 ∧ (qInt .u8) x.f2
set_option maxRecDepth 100000 in
theorem opens47 : Opens Try.prog 47 k47 q47 := by
 intro H enc w base spare held fuel cs x h
 obtain ⟨xs, n, rfl, _, hlen, hxs, hf⟩ := DataW.trod_array Try.underlying47 h
 rw [cellsO47] at hlen
 have g0 : DataW.trod enc Try.prog w base spare held n 5 ((cs.drop (0 * Try.prog.cellsOf 5)).take (Try.prog.cellsOf 5)) = xs[0]? := hf 0 (by decide)
 rw [cellsO5] at g0
 obtain ⟨a0, K0', Q0⟩ := (opens_int Try.underlying5) H enc w base spare held n _ _ (g0.trans (List.getElem?_eq_getElem (by rw [hxs]; decide)))
 simp only [Nat.reduceMul] at K0'
 have g1 : DataW.trod enc Try.prog w base spare held n 5 ((cs.drop (1 * Try.prog.cellsOf 5)).take (Try.prog.cellsOf 5)) = xs[1]? := hf 1 (by decide)
 rw [cellsO5] at g1
 obtain ⟨a1, K1', Q1⟩ := (opens_int Try.underlying5) H enc w base spare held n _ _ (g1.trans (List.getElem?_eq_getElem (by rw [hxs]; decide)))
 simp only [Nat.reduceMul] at K1'
 have g2 : DataW.trod enc Try.prog w base spare held n 5 ((cs.drop (2 * Try.prog.cellsOf 5)).take (Try.prog.cellsOf 5)) = xs[2]? := hf 2 (by decide)
 rw [cellsO5] at g2
 obtain ⟨a2, K2', Q2⟩ := (opens_int Try.underlying5) H enc w base spare held n _ _ (g2.trans (List.getElem?_eq_getElem (by rw [hxs]; decide)))
 simp only [Nat.reduceMul] at K2'
 exact ⟨⟨a0, a1, a2⟩, ⟨_, _, (List.take_append_drop 1 _).symm, (by simpa only [List.drop_drop, List.drop_zero] using K0'), ⟨_, _, (List.take_append_drop 1 _).symm, (by simpa only [List.drop_drop, List.drop_zero] using K1'), (by have h_ := K2'; rw [List.take_of_length_le (by rw [List.length_drop]; omega)] at h_; simpa only [List.drop_drop, List.drop_zero] using h_)⟩⟩, Q0, Q1, Q2⟩
theorem cellsO58 : Try.prog.cellsOf 58 = 1 := by kernel_rfl
theorem cellsO59 : Try.prog.cellsOf 59 = 1 := by kernel_rfl
theorem cellsO27 : Try.prog.cellsOf 27 = 1 := by kernel_rfl
theorem cellsO61 : Try.prog.cellsOf 61 = 6 := by kernel_rfl
def q61 (x : S61) : Prop := (qList q56) x.f0 ∧ (qList q57) x.f1 ∧ (qList (qInt .i64)) x.f2 ∧ q47 x.f3
set_option maxRecDepth 100000 in
theorem opens61 : Opens Try.prog 61 k61 q61 := by
 intro H enc w base spare held fuel cs x h
 obtain ⟨xs, n, rfl, _, hlen, hxs, hf⟩ := DataW.trod_struct Try.underlying61 h
 rw [cellsO61] at hlen
 have g0 : DataW.trod enc Try.prog w base spare held n 58 ((cs.drop (0)).take (Try.prog.cellsOf 58)) = xs[0]? := hf 0 _ rfl
 rw [cellsO58] at g0
 obtain ⟨a0, K0', Q0⟩ := (opens_slice Try.underlying58 cellsO56 opens56) H enc w base spare held n _ _ (g0.trans (List.getElem?_eq_getElem (by rw [hxs]; decide)))
 have g1 : DataW.trod enc Try.prog w base spare held n 59 ((cs.drop (1)).take (Try.prog.cellsOf 59)) = xs[1]? := hf 1 _ rfl
 rw [cellsO59] at g1
 obtain ⟨a1, K1', Q1⟩ := (opens_slice Try.underlying59 cellsO57 opens57) H enc w base spare held n _ _ (g1.trans (List.getElem?_eq_getElem (by rw [hxs]; decide)))
 have g2 : DataW.trod enc Try.prog w base spare held n 27 ((cs.drop (2)).take (Try.prog.cellsOf 27)) = xs[2]? := hf 2 _ rfl
 rw [cellsO27] at g2
 obtain ⟨a2, K2', Q2⟩ := (opens_slice Try.underlying27 cellsO3 (opens_int Try.underlying3)) H enc w base spare held n _ _ (g2.trans (List.getElem?_eq_getElem (by rw [hxs]; decide)))
 have g3 : DataW.trod enc Try.prog w base spare held n 47 ((cs.drop (3)).take (Try.prog.cellsOf 47)) = xs[3]? := hf 3 _ rfl
 rw [cellsO47] at g3
 obtain ⟨a3, K3', Q3⟩ := opens47 H enc w base spare held n _ _ (g3.trans (List.getElem?_eq_getElem (by rw [hxs]; decide)))
 exact ⟨⟨a0, a1, a2, a3⟩, ⟨_, _, (List.take_append_drop 1 _).symm, (by simpa only [List.drop_drop, List.drop_zero] using K0'), ⟨_, _, (List.take_append_drop 1 _).symm, (by simpa only [List.drop_drop, List.drop_zero] using K1'), ⟨_, _, (List.take_append_drop 1 _).symm, (by simpa only [List.drop_drop, List.drop_zero] using K2'), (by have h_ := K3'; rw [List.take_of_length_le (by rw [List.length_drop]; omega)] at h_; simpa only [List.drop_drop, List.drop_zero] using h_)⟩⟩⟩, Q0, Q1, Q2, Q3⟩
theorem cellsO78 : Try.prog.cellsOf 78 = 4 := by kernel_rfl
def q78 (x : S78) : Prop := qAny x.f0 ∧ (qInt .i64) x.f1 ∧ (qInt .i64) x.f2 ∧ (qInt .i64) x.f3
set_option maxRecDepth 100000 in
theorem opens78 : Opens Try.prog 78 k78 q78 := by
 intro H enc w base spare held fuel cs x h
 obtain ⟨xs, n, rfl, _, hlen, hxs, hf⟩ := DataW.trod_struct Try.underlying78 h
 rw [cellsO78] at hlen
 have g0 : DataW.trod enc Try.prog w base spare held n 4 ((cs.drop (0)).take (Try.prog.cellsOf 4)) = xs[0]? := hf 0 _ rfl
 rw [cellsO4] at g0
 obtain ⟨a0, K0', Q0⟩ := (opens_bool Try.underlying4) H enc w base spare held n _ _ (g0.trans (List.getElem?_eq_getElem (by rw [hxs]; decide)))
 have g1 : DataW.trod enc Try.prog w base spare held n 3 ((cs.drop (1)).take (Try.prog.cellsOf 3)) = xs[1]? := hf 1 _ rfl
 rw [cellsO3] at g1
 obtain ⟨a1, K1', Q1⟩ := (opens_int Try.underlying3) H enc w base spare held n _ _ (g1.trans (List.getElem?_eq_getElem (by rw [hxs]; decide)))
 have g2 : DataW.trod enc Try.prog w base spare held n 3 ((cs.drop (2)).take (Try.prog.cellsOf 3)) = xs[2]? := hf 2 _ rfl
 rw [cellsO3] at g2
 obtain ⟨a2, K2', Q2⟩ := (opens_int Try.underlying3) H enc w base spare held n _ _ (g2.trans (List.getElem?_eq_getElem (by rw [hxs]; decide)))
 have g3 : DataW.trod enc Try.prog w base spare held n 3 ((cs.drop (3)).take (Try.prog.cellsOf 3)) = xs[3]? := hf 3 _ rfl
 rw [cellsO3] at g3
 obtain ⟨a3, K3', Q3⟩ := (opens_int Try.underlying3) H enc w base spare held n _ _ (g3.trans (List.getElem?_eq_getElem (by rw [hxs]; decide)))
 exact ⟨⟨a0, a1, a2, a3⟩, ⟨_, _, (List.take_append_drop 1 _).symm, (by simpa only [List.drop_drop, List.drop_zero] using K0'), ⟨_, _, (List.take_append_drop 1 _).symm, (by simpa only [List.drop_drop, List.drop_zero] using K1'), ⟨_, _, (List.take_append_drop 1 _).symm, (by simpa only [List.drop_drop, List.drop_zero] using K2'), (by have h_ := K3'; rw [List.take_of_length_le (by rw [List.length_drop]; omega)] at h_; simpa only [List.drop_drop, List.drop_zero] using h_)⟩⟩⟩, Q0, Q1, Q2, Q3⟩
theorem cellsO22 : Try.prog.cellsOf 22 = 1 := by kernel_rfl
theorem cellsO23 : Try.prog.cellsOf 23 = 1 := by kernel_rfl
theorem cellsO24 : Try.prog.cellsOf 24 = 1 := by kernel_rfl
theorem cellsO26 : Try.prog.cellsOf 26 = 5 := by kernel_rfl
def q26 (x : S26) : Prop := (qInt .i64) x.f0 ∧ (qInt .i64) x.f1 ∧ (qList q77) x.f2 ∧ (qList q61) x.f3 ∧ (qList q78) x.f4
set_option maxRecDepth 100000 in
theorem opens26 : Opens Try.prog 26 k26 q26 := by
 intro H enc w base spare held fuel cs x h
 obtain ⟨xs, n, rfl, _, hlen, hxs, hf⟩ := DataW.trod_struct Try.underlying26 h
 rw [cellsO26] at hlen
 have g0 : DataW.trod enc Try.prog w base spare held n 3 ((cs.drop (0)).take (Try.prog.cellsOf 3)) = xs[0]? := hf 0 _ rfl
 rw [cellsO3] at g0
 obtain ⟨a0, K0', Q0⟩ := (opens_int Try.underlying3) H enc w base spare held n _ _ (g0.trans (List.getElem?_eq_getElem (by rw [hxs]; decide)))
 have g1 : DataW.trod enc Try.prog w base spare held n 3 ((cs.drop (1)).take (Try.prog.cellsOf 3)) = xs[1]? := hf 1 _ rfl
 rw [cellsO3] at g1
 obtain ⟨a1, K1', Q1⟩ := (opens_int Try.underlying3) H enc w base spare held n _ _ (g1.trans (List.getElem?_eq_getElem (by rw [hxs]; decide)))
 have g2 : DataW.trod enc Try.prog w base spare held n 22 ((cs.drop (2)).take (Try.prog.cellsOf 22)) = xs[2]? := hf 2 _ rfl
 rw [cellsO22] at g2
 obtain ⟨a2, K2', Q2⟩ := (opens_slice Try.underlying22 cellsO77 opens77) H enc w base spare held n _ _ (g2.trans (List.getElem?_eq_getElem (by rw [hxs]; decide)))
 have g3 : DataW.trod enc Try.prog w base spare held n 23 ((cs.drop (3)).take (Try.prog.cellsOf 23)) = xs[3]? := hf 3 _ rfl
 rw [cellsO23] at g3
 obtain ⟨a3, K3', Q3⟩ := (opens_slice Try.underlying23 cellsO61 opens61) H enc w base spare held n _ _ (g3.trans (List.getElem?_eq_getElem (by rw [hxs]; decide)))
 have g4 : DataW.trod enc Try.prog w base spare held n 24 ((cs.drop (4)).take (Try.prog.cellsOf 24)) = xs[4]? := hf 4 _ rfl
 rw [cellsO24] at g4
 obtain ⟨a4, K4', Q4⟩ := (opens_slice Try.underlying24 cellsO78 opens78) H enc w base spare held n _ _ (g4.trans (List.getElem?_eq_getElem (by rw [hxs]; decide)))
 exact ⟨⟨a0, a1, a2, a3, a4⟩, ⟨_, _, (List.take_append_drop 1 _).symm, (by simpa only [List.drop_drop, List.drop_zero] using K0'), ⟨_, _, (List.take_append_drop 1 _).symm, (by simpa only [List.drop_drop, List.drop_zero] using K1'), ⟨_, _, (List.take_append_drop 1 _).symm, (by simpa only [List.drop_drop, List.drop_zero] using K2'), ⟨_, _, (List.take_append_drop 1 _).symm, (by simpa only [List.drop_drop, List.drop_zero] using K3'), (by have h_ := K4'; rw [List.take_of_length_le (by rw [List.length_drop]; omega)] at h_; simpa only [List.drop_drop, List.drop_zero] using h_)⟩⟩⟩⟩, Q0, Q1, Q2, Q3, Q4⟩
end Go.Proofs.Ytmjhnmdmopmfjaa.Fn
