/- Part of the proof of ConfSames: see the last text. (Words laid by the print, as far as they are named here; walks written by a program of this project; plain laws.) -/
import Derived.Test.YtmjhnmdmopmfjaaConfSamesZ4
namespace Go.Proofs.Ytmjhnmdmopmfjaa.Fn
open Go.RowKit Go.Proofs.YtmjhnmdmopmfjaaW.PrintWords Go.Proofs.YtmjhnmdmopmfjaaW.PrintLast Go.Proofs.YtmjhnmdmopmfjaaW.PrintMore
attribute [local go_sem] max2_int min2_int max_two min_two max_three min_three max_four min_four
set_option linter.unusedVariables false
set_option linter.unusedSimpArgs false
attribute [local go_sem high] eqA77 eqA78
mutual
def parcloseref03_Same.j0 : Nat → Bool → Int → Int → List (S77) → List (S61) → List (S78) → Int → Int → List (S77) → List (S61) → List (S78) → Option (Bool)
 | 0, _, _, _, _, _, _, _, _, _, _, _ => none
 | k + 1, x46, x234000, x234001, x234002, x234003, x234004, x235000, x235001, x235002, x235003, x235004 => if x46 = true then (some false) else (parcloseref03_Same.l0 k 0 x234000 x234001 x234002 x234003 x234004 x235000 x235001 x235002 x235003 x235004)
def parcloseref03_Same.l0 : Nat → Int → Int → Int → List (S77) → List (S61) → List (S78) → Int → Int → List (S77) → List (S61) → List (S78) → Option (Bool)
 | 0, _, _, _, _, _, _, _, _, _, _, _ => none
 | k + 1, x5, x234000, x234001, x234002, x234003, x234004, x235000, x235001, x235002, x235003, x235004 => if x5 < (x234002.length : Int) then (if 0 ≤ x5 then (if x5 < (x235002.length : Int) then (if (!(((rd_T77 x234002 x5).f0) == ((rd_T77 x235002 x5).f0)) || (!(((rd_T77 x234002 x5).f1) == ((rd_T77 x235002 x5).f1)) || (!(((rd_T77 x234002 x5).f2) == ((rd_T77 x235002 x5).f2))))) = true then (some false) else (parcloseref03_Same.l0 k (wrap64 (x5 + 1)) x234000 x234001 x234002 x234003 x234004 x235000 x235001 x235002 x235003 x235004)) else (none)) else (none)) else (parcloseref03_Same.l1 k 0 x234000 x234001 x234002 x234003 x234004 x235000 x235001 x235002 x235003 x235004)
def parcloseref03_Same.l1 : Nat → Int → Int → Int → List (S77) → List (S61) → List (S78) → Int → Int → List (S77) → List (S61) → List (S78) → Option (Bool)
 | 0, _, _, _, _, _, _, _, _, _, _, _ => none
 | k + 1, x6, x234000, x234001, x234002, x234003, x234004, x235000, x235001, x235002, x235003, x235004 => if x6 < (x234003.length : Int) then (if 0 ≤ x6 then (if x6 < (x235003.length : Int) then ((parcloseref03_samePart.f k ((rd_T61 x234003 x6).f0) ((rd_T61 x234003 x6).f1) ((rd_T61 x234003 x6).f2) ((rd_T61 x234003 x6).f3.f0) ((rd_T61 x234003 x6).f3.f1) ((rd_T61 x234003 x6).f3.f2) ((rd_T61 x235003 x6).f0) ((rd_T61 x235003 x6).f1) ((rd_T61 x235003 x6).f2) ((rd_T61 x235003 x6).f3.f0) ((rd_T61 x235003 x6).f3.f1) ((rd_T61 x235003 x6).f3.f2)).bind fun t239 => (if t239 = true then (parcloseref03_Same.l1 k (wrap64 (x6 + 1)) x234000 x234001 x234002 x234003 x234004 x235000 x235001 x235002 x235003 x235004) else (some false))) else (none)) else (none)) else (parcloseref03_Same.l2 k 0 x234000 x234001 x234002 x234003 x234004 x235000 x235001 x235002 x235003 x235004)
def parcloseref03_Same.l2 : Nat → Int → Int → Int → List (S77) → List (S61) → List (S78) → Int → Int → List (S77) → List (S61) → List (S78) → Option (Bool)
 | 0, _, _, _, _, _, _, _, _, _, _, _ => none
 | k + 1, x7, x234000, x234001, x234002, x234003, x234004, x235000, x235001, x235002, x235003, x235004 => if x7 < (x234004.length : Int) then (if 0 ≤ x7 then (if x7 < (x235004.length : Int) then (if (!(((rd_T78 x234004 x7).f0) == ((rd_T78 x235004 x7).f0)) || (!(((rd_T78 x234004 x7).f1) == ((rd_T78 x235004 x7).f1)) || (!(((rd_T78 x234004 x7).f2) == ((rd_T78 x235004 x7).f2)) || (!(((rd_T78 x234004 x7).f3) == ((rd_T78 x235004 x7).f3)))))) = true then (some false) else (parcloseref03_Same.l2 k (wrap64 (x7 + 1)) x234000 x234001 x234002 x234003 x234004 x235000 x235001 x235002 x235003 x235004)) else (none)) else (none)) else (some true)
end
def parcloseref03_Same.f (k : Nat) (a0_0 : Int) (a0_1 : Int) (l0_2 : List (S77)) (l0_3 : List (S61)) (l0_4 : List (S78)) (a1_0 : Int) (a1_1 : Int) (l1_2 : List (S77)) (l1_3 : List (S61)) (l1_4 : List (S78)) : Option (Bool) := if a0_0 = a1_0 then (if a0_1 = a1_1 then (if (l0_2.length : Int) = (l1_2.length : Int) then (if (l0_3.length : Int) = (l1_3.length : Int) then (parcloseref03_Same.j0 k ((l0_4.length : Int) != (l1_4.length : Int)) a0_0 a0_1 l0_2 l0_3 l0_4 a1_0 a1_1 l1_2 l1_3 l1_4) else (parcloseref03_Same.j0 k true a0_0 a0_1 l0_2 l0_3 l0_4 a1_0 a1_1 l1_2 l1_3 l1_4)) else (parcloseref03_Same.j0 k true a0_0 a0_1 l0_2 l0_3 l0_4 a1_0 a1_1 l1_2 l1_3 l1_4)) else (parcloseref03_Same.j0 k true a0_0 a0_1 l0_2 l0_3 l0_4 a1_0 a1_1 l1_2 l1_3 l1_4)) else (parcloseref03_Same.j0 k true a0_0 a0_1 l0_2 l0_3 l0_4 a1_0 a1_1 l1_2 l1_3 l1_4)
def parcloseref03_Same.T6 : Bool × List (List Nat × List Nat) := (true, [([], []), ([0], [0]), ([], []), ([1, 2], [1, 2]), ([3], [3]), ([], []), ([5], [5]), ([], []), ([6, 7], [6, 7]), ([8], [8]), ([4, 9], [4, 9])])
def parcloseref03_Same.B6 : List Nat := [0, 1, 0, 7, 15, 0, 32, 0, 224, 480, 1023]
theorem parcloseref03_Same.tab6 : rtab .any (opsOf Try.f23 6) = parcloseref03_Same.T6 := by kernel_rfl
theorem parcloseref03_Same.bits6 : waitsOk parcloseref03_Same.T6.2 parcloseref03_Same.B6 = true := by kernel_rfl
def parcloseref03_Same.T11 : Bool × List (List Nat × List Nat) := (true, [([], []), ([0], [0]), ([], []), ([1, 2], [1, 2]), ([3], [3]), ([], []), ([5], [5]), ([], []), ([6, 7], [6, 7]), ([8], [8]), ([4, 9], [4, 9]), ([10], [10])])
def parcloseref03_Same.B11 : List Nat := [0, 1, 0, 7, 15, 0, 32, 0, 224, 480, 1023, 2047]
theorem parcloseref03_Same.tab11 : rtab .any (opsOf Try.f23 11) = parcloseref03_Same.T11 := by kernel_rfl
theorem parcloseref03_Same.bits11 : waitsOk parcloseref03_Same.T11.2 parcloseref03_Same.B11 = true := by kernel_rfl
def parcloseref03_Same.T16 : Bool × List (List Nat × List Nat) := (true, [([], []), ([0], [0]), ([], []), ([1, 2], [1, 2]), ([3], [3]), ([], []), ([5], [5]), ([], []), ([6, 7], [6, 7]), ([8], [8]), ([4, 9], [4, 9])])
def parcloseref03_Same.B16 : List Nat := [0, 1, 0, 7, 15, 0, 32, 0, 224, 480, 1023]
theorem parcloseref03_Same.tab16 : rtab .any (opsOf Try.f23 16) = parcloseref03_Same.T16 := by kernel_rfl
theorem parcloseref03_Same.bits16 : waitsOk parcloseref03_Same.T16.2 parcloseref03_Same.B16 = true := by kernel_rfl
set_option maxHeartbeats 8000000 in
set_option maxRecDepth 100000 in
theorem parcloseref03_Same.calls (k : Nat) (a0_0 : Int) (a0_1 : Int) (A0_2 : Option Addr) (c0_2 : Nat) (l0_2 : List (S77)) (A0_3 : Option Addr) (c0_3 : Nat) (l0_3 : List (S61)) (A0_4 : Option Addr) (c0_4 : Nat) (l0_4 : List (S78)) (a1_0 : Int) (a1_1 : Int) (A1_2 : Option Addr) (c1_2 : Nat) (l1_2 : List (S77)) (A1_3 : Option Addr) (c1_3 : Nat) (l1_3 : List (S61)) (A1_4 : Option Addr) (c1_4 : Nat) (l1_4 : List (S78)) (r : Bool) (w : World) (hr0_2 : Kd.C k77 w A0_2 l0_2.length l0_2) (hc0_2 : l0_2.length ≤ c0_2) (hr0_3 : Kd.C k61 w A0_3 l0_3.length l0_3) (hc0_3 : l0_3.length ≤ c0_3) (hr0_4 : Kd.C k78 w A0_4 l0_4.length l0_4) (hc0_4 : l0_4.length ≤ c0_4) (hr1_2 : Kd.C k77 w A1_2 l1_2.length l1_2) (hc1_2 : l1_2.length ≤ c1_2) (hr1_3 : Kd.C k61 w A1_3 l1_3.length l1_3) (hc1_3 : l1_3.length ≤ c1_3) (hr1_4 : Kd.C k78 w A1_4 l1_4.length l1_4) (hc1_4 : l1_4.length ≤ c1_4) (h : parcloseref03_Same.f k a0_0 a0_1 l0_2 l0_3 l0_4 a1_0 a1_1 l1_2 l1_3 l1_4 = some r) :
  Calls Try.prog 23 #[.agg #[.int .i64 a0_0, .int .i64 a0_1, .slice A0_2 l0_2.length c0_2, .slice A0_3 l0_3.length c0_3, .slice A0_4 l0_4.length c0_4], .agg #[.int .i64 a1_0, .int .i64 a1_1, .slice A1_2 l1_2.length c1_2, .slice A1_3 l1_3.length c1_3, .slice A1_4 l1_4.length c1_4]] w fun e w' => e = .returned (.bool r) ∧ Below w.heap.size w w' := by
 have hu26 := Try.underlying26
 have hu77 := Try.underlying77
 have hu61 := Try.underlying61
 have hu78 := Try.underlying78
 have HR0_2 := asd hr0_2
 have HC0_2 := asd hc0_2
 clear hr0_2 hc0_2
 have HR0_3 := asd hr0_3
 have HC0_3 := asd hc0_3
 clear hr0_3 hc0_3
 have HR0_4 := asd hr0_4
 have HC0_4 := asd hc0_4
 clear hr0_4 hc0_4
 have HR1_2 := asd hr1_2
 have HC1_2 := asd hc1_2
 clear hr1_2 hc1_2
 have HR1_3 := asd hr1_3
 have HC1_3 := asd hc1_3
 clear hr1_3 hc1_3
 have HR1_4 := asd hr1_4
 have HC1_4 := asd hc1_4
 clear hr1_4 hc1_4
 have HB := asd (Below.refl w.heap.size w)
 have H : (if a0_0 = a1_0 then (if a0_1 = a1_1 then (if (l0_2.length : Int) = (l1_2.length : Int) then (if (l0_3.length : Int) = (l1_3.length : Int) then (parcloseref03_Same.j0 k ((l0_4.length : Int) != (l1_4.length : Int)) a0_0 a0_1 l0_2 l0_3 l0_4 a1_0 a1_1 l1_2 l1_3 l1_4) else (parcloseref03_Same.j0 k true a0_0 a0_1 l0_2 l0_3 l0_4 a1_0 a1_1 l1_2 l1_3 l1_4)) else (parcloseref03_Same.j0 k true a0_0 a0_1 l0_2 l0_3 l0_4 a1_0 a1_1 l1_2 l1_3 l1_4)) else (parcloseref03_Same.j0 k true a0_0 a0_1 l0_2 l0_3 l0_4 a1_0 a1_1 l1_2 l1_3 l1_4)) else (parcloseref03_Same.j0 k true a0_0 a0_1 l0_2 l0_3 l0_4 a1_0 a1_1 l1_2 l1_3 l1_4)) = some r := h
 clear h
 have HC3 := asd H
 clear H
 go_enter Try.func23, Try.ntmps23
 go_upto_region 1 with (first | ((with_reducible refine gate_dst (N := 2) rfl ?_); (try (refine gate_guard (by rfl) ?_; dsimp only)); refine box_event ?hg (N := 2) ?hd (cs := #[.int .i64 a0_0, .int .i64 a0_1, .slice A0_2 l0_2.length c0_2, .slice A0_3 l0_3.length c0_3, .slice A0_4 l0_4.length c0_4]) (t := 26) ?hr ?_; (case hd => rfl); (case hg => rfl); (case hr => first | (go_simp; done) | (go_simp; rfl)); intro gb233 hg w4 hbox hb; have n0_ := asd (below_step (by repeat (first | (with_reducible first | exact HB.out | apply wa | apply wn | apply wd) | exact HB.out)) hb); have n1_ := asd (hbox); have n2_ := asd ((by rw [hg]; exact (below_size (by repeat (first | (with_reducible first | exact HB.out | apply wa | apply wn | apply wd) | exact HB.out))) : w.heap.size ≤ gb233)); have n3_ := asd ((by rw [hg]; exact (below_size (by repeat (first | (with_reducible first | exact HB.out | apply wa | apply wn | apply wd) | exact HB.out))) : w.heap.size ≤ gb233)); clear HB; have HB := n0_; have BK233 := n1_; have GW233 := n2_; have GE233 := n3_; clear n0_ n1_ n2_ n3_; clear hb hbox hg) | ((with_reducible refine gate_dst (N := 3) rfl ?_); (try (refine gate_guard (by rfl) ?_; dsimp only)); refine box_event ?hg (N := 3) ?hd (cs := #[.int .i64 a1_0, .int .i64 a1_1, .slice A1_2 l1_2.length c1_2, .slice A1_3 l1_3.length c1_3, .slice A1_4 l1_4.length c1_4]) (t := 26) ?hr ?_; (case hd => rfl); (case hg => rfl); (case hr => first | (go_simp; done) | (go_simp; rfl)); intro gb234 hg w5 hbox hb; have n0_ := asd (blk_below (g := gb233) (o := .cells #[.int .i64 a0_0, .int .i64 a0_1, .slice A0_2 l0_2.length c0_2, .slice A0_3 l0_3.length c0_3, .slice A0_4 l0_4.length c0_4] 26 (0, 0)) (by (with_reducible repeat first | apply bn | apply bd | apply ba); exact BK233.out) hb); have n1_ := asd (below_step (by repeat (first | (with_reducible first | exact HB.out | apply wa | apply wn | apply wd | refine ws ?_ GE233.out) | exact HB.out)) hb); have n2_ := asd (hbox); have n3_ := asd ((by rw [hg]; exact (below_size (by repeat (first | (with_reducible first | exact HB.out | apply wa | apply wn | apply wd | refine ws ?_ GE233.out) | exact HB.out))) : w.heap.size ≤ gb234)); have n4_ := asd ((by rw [hg]; exact (below_size (by repeat (first | (with_reducible first | exact HB.out | apply wa | apply wn | apply wd | refine ws ?_ GE233.out) | exact HB.out))) : w.heap.size ≤ gb234)); have n5_ := asd ((by rw [hg]; exact Nat.ne_of_lt (blk_lt (g := gb233) (o := .cells #[.int .i64 a0_0, .int .i64 a0_1, .slice A0_2 l0_2.length c0_2, .slice A0_3 l0_3.length c0_3, .slice A0_4 l0_4.length c0_4] 26 (0, 0)) (by (with_reducible repeat first | apply bn | apply bd | apply ba); exact BK233.out)) : gb233 ≠ gb234)); have n6_ := asd ((by rw [hg]; exact Nat.ne_of_gt (blk_lt (g := gb233) (o := .cells #[.int .i64 a0_0, .int .i64 a0_1, .slice A0_2 l0_2.length c0_2, .slice A0_3 l0_3.length c0_3, .slice A0_4 l0_4.length c0_4] 26 (0, 0)) (by (with_reducible repeat first | apply bn | apply bd | apply ba); exact BK233.out)) : gb234 ≠ gb233)); clear BK233; clear HB; have BK233 := n0_; have HB := n1_; have BK234 := n2_; have GW234 := n3_; have GE234 := n4_; have NB233_234 := n5_; have NB234_233 := n6_; clear n0_ n1_ n2_ n3_ n4_ n5_ n6_; clear hb hbox hg))
 (try simp only [Act.put, sB])
 go_cut [46] (fun v46 wc => ∃ (kq : Nat) (x46_2 : Bool), v46 = .bool x46_2 ∧ Aside0 (parcloseref03_Same.j0 kq x46_2 a0_0 a0_1 l0_2 l0_3 l0_4 a1_0 a1_1 l1_2 l1_3 l1_4 = some r) ∧ Aside0 (kq ≤ k) ∧ Aside0 (wc.heap[gb233]? = some (.cells #[.int .i64 a0_0, .int .i64 a0_1, (.slice A0_2 l0_2.length c0_2), (.slice A0_3 l0_3.length c0_3), (.slice A0_4 l0_4.length c0_4)] 26 (0, 0))) ∧ Aside0 (wc.heap[gb234]? = some (.cells #[.int .i64 a1_0, .int .i64 a1_1, (.slice A1_2 l1_2.length c1_2), (.slice A1_3 l1_3.length c1_3), (.slice A1_4 l1_4.length c1_4)] 26 (0, 0))) ∧ Aside0 (Below w.heap.size w wc))
 case first =>
  have H := HC3.out
  clear HC3
  by_cases c6 : a0_0 = a1_0
  ·rw [if_pos c6] at H
   have c6b0 : (a0_0 == a1_0) = true := beq_iff_eq.mpr c6
   have c6b1 : (a0_0 != a1_0) = false := bne_eq_false_iff_eq.mpr c6
   clear c6
   (first | rw [c6b0] | (simp only [i64_w, i32_w]; rw [c6b0]) | skip)
   by_cases c7 : a0_1 = a1_1
   ·rw [if_pos c7] at H
    have c7b0 : (a0_1 == a1_1) = true := beq_iff_eq.mpr c7
    have c7b1 : (a0_1 != a1_1) = false := bne_eq_false_iff_eq.mpr c7
    clear c7
    by_cases c8 : (l0_2.length : Int) = (l1_2.length : Int)
    ·rw [if_pos c8] at H
     have c8b0 : ((l0_2.length : Int) == (l1_2.length : Int)) = true := beq_iff_eq.mpr c8
     have c8b1 : ((l0_2.length : Int) != (l1_2.length : Int)) = false := bne_eq_false_iff_eq.mpr c8
     have c8b2 : (l0_2.length == l1_2.length) = true := by first | simpa using c8 | (simp at c8 ⊢; omega)
     clear c8
     by_cases c9 : (l0_3.length : Int) = (l1_3.length : Int)
     ·rw [if_pos c9] at H
      have c9b0 : ((l0_3.length : Int) == (l1_3.length : Int)) = true := beq_iff_eq.mpr c9
      have c9b1 : ((l0_3.length : Int) != (l1_3.length : Int)) = false := bne_eq_false_iff_eq.mpr c9
      have c9b2 : (l0_3.length == l1_3.length) = true := by first | simpa using c9 | (simp at c9 ⊢; omega)
      clear c9
      have H' := asd H
      clear H
      have hnb10 := NB233_234.out
      have hnc10 := NB234_233.out
      have hcz11_0 : w5.cell? ⟨gb233, 0, none⟩ = some (.int .i64 a0_0) := (blk_cell BK233.out 0).trans rfl
      have hcz11_1 : w5.cell? ⟨gb233, 1, none⟩ = some (.int .i64 a0_1) := (blk_cell BK233.out 1).trans rfl
      have hcz11_2 : w5.cell? ⟨gb233, 2, none⟩ = some (.slice A0_2 l0_2.length c0_2) := (blk_cell BK233.out 2).trans rfl
      have hcz11_3 : w5.cell? ⟨gb233, 3, none⟩ = some (.slice A0_3 l0_3.length c0_3) := (blk_cell BK233.out 3).trans rfl
      have hcz11_4 : w5.cell? ⟨gb233, 4, none⟩ = some (.slice A0_4 l0_4.length c0_4) := (blk_cell BK233.out 4).trans rfl
      have hfz11_0 := blk_frozen BK233.out 0
      have hfz11_1 := blk_frozen BK233.out 1
      have hfz11_2 := blk_frozen BK233.out 2
      have hfz11_3 := blk_frozen BK233.out 3
      have hfz11_4 := blk_frozen BK233.out 4
      have hcz12_0 : w5.cell? ⟨gb234, 0, none⟩ = some (.int .i64 a1_0) := (blk_cell BK234.out 0).trans rfl
      have hcz12_1 : w5.cell? ⟨gb234, 1, none⟩ = some (.int .i64 a1_1) := (blk_cell BK234.out 1).trans rfl
      have hcz12_2 : w5.cell? ⟨gb234, 2, none⟩ = some (.slice A1_2 l1_2.length c1_2) := (blk_cell BK234.out 2).trans rfl
      have hcz12_3 : w5.cell? ⟨gb234, 3, none⟩ = some (.slice A1_3 l1_3.length c1_3) := (blk_cell BK234.out 3).trans rfl
      have hcz12_4 : w5.cell? ⟨gb234, 4, none⟩ = some (.slice A1_4 l1_4.length c1_4) := (blk_cell BK234.out 4).trans rfl
      have hfz12_0 := blk_frozen BK234.out 0
      have hfz12_1 := blk_frozen BK234.out 1
      have hfz12_2 := blk_frozen BK234.out 2
      have hfz12_3 := blk_frozen BK234.out 3
      have hfz12_4 := blk_frozen BK234.out 4
      go_wp2
      go_meet
      case rel => exact ⟨_, (((l0_4.length : Int) != (l1_4.length : Int))), (by first | rfl | (simp; done) | (simp [*]; done)), H', ⟨by first | omega | exact Nat.le_refl _⟩, ⟨by (with_reducible repeat first | apply bn | apply bd | apply ba); exact BK233.out⟩, ⟨by (with_reducible repeat first | apply bn | apply bd | apply ba); exact BK234.out⟩, ⟨by repeat (first | (with_reducible first | exact HB.out | apply wa | apply wn | apply wd | refine ws ?_ GE233.out | refine ws ?_ GE234.out) | exact HB.out)⟩⟩
     ·rw [if_neg c9] at H
      have c9b0 : ((l0_3.length : Int) == (l1_3.length : Int)) = false := beq_eq_false_iff_ne.mpr c9
      have c9b1 : ((l0_3.length : Int) != (l1_3.length : Int)) = true := bne_iff_ne.mpr c9
      have c9b2 : (l0_3.length == l1_3.length) = false := by first | simpa using c9 | (simp at c9 ⊢; omega)
      have H' := asd H
      clear H
      have hnb13 := NB233_234.out
      have hnc13 := NB234_233.out
      have hcz14_0 : w5.cell? ⟨gb233, 0, none⟩ = some (.int .i64 a0_0) := (blk_cell BK233.out 0).trans rfl
      have hcz14_1 : w5.cell? ⟨gb233, 1, none⟩ = some (.int .i64 a0_1) := (blk_cell BK233.out 1).trans rfl
      have hcz14_2 : w5.cell? ⟨gb233, 2, none⟩ = some (.slice A0_2 l0_2.length c0_2) := (blk_cell BK233.out 2).trans rfl
      have hcz14_3 : w5.cell? ⟨gb233, 3, none⟩ = some (.slice A0_3 l0_3.length c0_3) := (blk_cell BK233.out 3).trans rfl
      have hcz14_4 : w5.cell? ⟨gb233, 4, none⟩ = some (.slice A0_4 l0_4.length c0_4) := (blk_cell BK233.out 4).trans rfl
      have hfz14_0 := blk_frozen BK233.out 0
      have hfz14_1 := blk_frozen BK233.out 1
      have hfz14_2 := blk_frozen BK233.out 2
      have hfz14_3 := blk_frozen BK233.out 3
      have hfz14_4 := blk_frozen BK233.out 4
      have hcz15_0 : w5.cell? ⟨gb234, 0, none⟩ = some (.int .i64 a1_0) := (blk_cell BK234.out 0).trans rfl
      have hcz15_1 : w5.cell? ⟨gb234, 1, none⟩ = some (.int .i64 a1_1) := (blk_cell BK234.out 1).trans rfl
      have hcz15_2 : w5.cell? ⟨gb234, 2, none⟩ = some (.slice A1_2 l1_2.length c1_2) := (blk_cell BK234.out 2).trans rfl
      have hcz15_3 : w5.cell? ⟨gb234, 3, none⟩ = some (.slice A1_3 l1_3.length c1_3) := (blk_cell BK234.out 3).trans rfl
      have hcz15_4 : w5.cell? ⟨gb234, 4, none⟩ = some (.slice A1_4 l1_4.length c1_4) := (blk_cell BK234.out 4).trans rfl
      have hfz15_0 := blk_frozen BK234.out 0
      have hfz15_1 := blk_frozen BK234.out 1
      have hfz15_2 := blk_frozen BK234.out 2
      have hfz15_3 := blk_frozen BK234.out 3
      have hfz15_4 := blk_frozen BK234.out 4
      go_wp2
      go_meet
      case rel => exact ⟨_, (true), (by first | rfl | (simp; done) | (simp [*]; done)), H', ⟨by first | omega | exact Nat.le_refl _⟩, ⟨by (with_reducible repeat first | apply bn | apply bd | apply ba); exact BK233.out⟩, ⟨by (with_reducible repeat first | apply bn | apply bd | apply ba); exact BK234.out⟩, ⟨by repeat (first | (with_reducible first | exact HB.out | apply wa | apply wn | apply wd | refine ws ?_ GE233.out | refine ws ?_ GE234.out) | exact HB.out)⟩⟩
    ·rw [if_neg c8] at H
     have c8b0 : ((l0_2.length : Int) == (l1_2.length : Int)) = false := beq_eq_false_iff_ne.mpr c8
     have c8b1 : ((l0_2.length : Int) != (l1_2.length : Int)) = true := bne_iff_ne.mpr c8
     have c8b2 : (l0_2.length == l1_2.length) = false := by first | simpa using c8 | (simp at c8 ⊢; omega)
     have H' := asd H
     clear H
     have hnb16 := NB233_234.out
     have hnc16 := NB234_233.out
     have hcz17_0 : w5.cell? ⟨gb233, 0, none⟩ = some (.int .i64 a0_0) := (blk_cell BK233.out 0).trans rfl
     have hcz17_1 : w5.cell? ⟨gb233, 1, none⟩ = some (.int .i64 a0_1) := (blk_cell BK233.out 1).trans rfl
     have hcz17_2 : w5.cell? ⟨gb233, 2, none⟩ = some (.slice A0_2 l0_2.length c0_2) := (blk_cell BK233.out 2).trans rfl
     have hcz17_3 : w5.cell? ⟨gb233, 3, none⟩ = some (.slice A0_3 l0_3.length c0_3) := (blk_cell BK233.out 3).trans rfl
     have hcz17_4 : w5.cell? ⟨gb233, 4, none⟩ = some (.slice A0_4 l0_4.length c0_4) := (blk_cell BK233.out 4).trans rfl
     have hfz17_0 := blk_frozen BK233.out 0
     have hfz17_1 := blk_frozen BK233.out 1
     have hfz17_2 := blk_frozen BK233.out 2
     have hfz17_3 := blk_frozen BK233.out 3
     have hfz17_4 := blk_frozen BK233.out 4
     have hcz18_0 : w5.cell? ⟨gb234, 0, none⟩ = some (.int .i64 a1_0) := (blk_cell BK234.out 0).trans rfl
     have hcz18_1 : w5.cell? ⟨gb234, 1, none⟩ = some (.int .i64 a1_1) := (blk_cell BK234.out 1).trans rfl
     have hcz18_2 : w5.cell? ⟨gb234, 2, none⟩ = some (.slice A1_2 l1_2.length c1_2) := (blk_cell BK234.out 2).trans rfl
     have hcz18_3 : w5.cell? ⟨gb234, 3, none⟩ = some (.slice A1_3 l1_3.length c1_3) := (blk_cell BK234.out 3).trans rfl
     have hcz18_4 : w5.cell? ⟨gb234, 4, none⟩ = some (.slice A1_4 l1_4.length c1_4) := (blk_cell BK234.out 4).trans rfl
     have hfz18_0 := blk_frozen BK234.out 0
     have hfz18_1 := blk_frozen BK234.out 1
     have hfz18_2 := blk_frozen BK234.out 2
     have hfz18_3 := blk_frozen BK234.out 3
     have hfz18_4 := blk_frozen BK234.out 4
     go_wp2
     go_meet
     case rel => exact ⟨_, (true), (by first | rfl | (simp; done) | (simp [*]; done)), H', ⟨by first | omega | exact Nat.le_refl _⟩, ⟨by (with_reducible repeat first | apply bn | apply bd | apply ba); exact BK233.out⟩, ⟨by (with_reducible repeat first | apply bn | apply bd | apply ba); exact BK234.out⟩, ⟨by repeat (first | (with_reducible first | exact HB.out | apply wa | apply wn | apply wd | refine ws ?_ GE233.out | refine ws ?_ GE234.out) | exact HB.out)⟩⟩
   ·rw [if_neg c7] at H
    have c7b0 : (a0_1 == a1_1) = false := beq_eq_false_iff_ne.mpr c7
    have c7b1 : (a0_1 != a1_1) = true := bne_iff_ne.mpr c7
    have H' := asd H
    clear H
    have hnb19 := NB233_234.out
    have hnc19 := NB234_233.out
    have hcz20_0 : w5.cell? ⟨gb233, 0, none⟩ = some (.int .i64 a0_0) := (blk_cell BK233.out 0).trans rfl
    have hcz20_1 : w5.cell? ⟨gb233, 1, none⟩ = some (.int .i64 a0_1) := (blk_cell BK233.out 1).trans rfl
    have hcz20_2 : w5.cell? ⟨gb233, 2, none⟩ = some (.slice A0_2 l0_2.length c0_2) := (blk_cell BK233.out 2).trans rfl
    have hcz20_3 : w5.cell? ⟨gb233, 3, none⟩ = some (.slice A0_3 l0_3.length c0_3) := (blk_cell BK233.out 3).trans rfl
    have hcz20_4 : w5.cell? ⟨gb233, 4, none⟩ = some (.slice A0_4 l0_4.length c0_4) := (blk_cell BK233.out 4).trans rfl
    have hfz20_0 := blk_frozen BK233.out 0
    have hfz20_1 := blk_frozen BK233.out 1
    have hfz20_2 := blk_frozen BK233.out 2
    have hfz20_3 := blk_frozen BK233.out 3
    have hfz20_4 := blk_frozen BK233.out 4
    have hcz21_0 : w5.cell? ⟨gb234, 0, none⟩ = some (.int .i64 a1_0) := (blk_cell BK234.out 0).trans rfl
    have hcz21_1 : w5.cell? ⟨gb234, 1, none⟩ = some (.int .i64 a1_1) := (blk_cell BK234.out 1).trans rfl
    have hcz21_2 : w5.cell? ⟨gb234, 2, none⟩ = some (.slice A1_2 l1_2.length c1_2) := (blk_cell BK234.out 2).trans rfl
    have hcz21_3 : w5.cell? ⟨gb234, 3, none⟩ = some (.slice A1_3 l1_3.length c1_3) := (blk_cell BK234.out 3).trans rfl
    have hcz21_4 : w5.cell? ⟨gb234, 4, none⟩ = some (.slice A1_4 l1_4.length c1_4) := (blk_cell BK234.out 4).trans rfl
    have hfz21_0 := blk_frozen BK234.out 0
    have hfz21_1 := blk_frozen BK234.out 1
    have hfz21_2 := blk_frozen BK234.out 2
    have hfz21_3 := blk_frozen BK234.out 3
    have hfz21_4 := blk_frozen BK234.out 4
    go_wp2
    go_meet
    case rel => exact ⟨_, (true), (by first | rfl | (simp; done) | (simp [*]; done)), H', ⟨by first | omega | exact Nat.le_refl _⟩, ⟨by (with_reducible repeat first | apply bn | apply bd | apply ba); exact BK233.out⟩, ⟨by (with_reducible repeat first | apply bn | apply bd | apply ba); exact BK234.out⟩, ⟨by repeat (first | (with_reducible first | exact HB.out | apply wa | apply wn | apply wd | refine ws ?_ GE233.out | refine ws ?_ GE234.out) | exact HB.out)⟩⟩
  ·rw [if_neg c6] at H
   have c6b0 : (a0_0 == a1_0) = false := beq_eq_false_iff_ne.mpr c6
   have c6b1 : (a0_0 != a1_0) = true := bne_iff_ne.mpr c6
   (first | rw [c6b0] | (simp only [i64_w, i32_w]; rw [c6b0]) | skip)
   have H' := asd H
   clear H
   have hnb22 := NB233_234.out
   have hnc22 := NB234_233.out
   have hcz23_0 : w5.cell? ⟨gb233, 0, none⟩ = some (.int .i64 a0_0) := (blk_cell BK233.out 0).trans rfl
   have hcz23_1 : w5.cell? ⟨gb233, 1, none⟩ = some (.int .i64 a0_1) := (blk_cell BK233.out 1).trans rfl
   have hcz23_2 : w5.cell? ⟨gb233, 2, none⟩ = some (.slice A0_2 l0_2.length c0_2) := (blk_cell BK233.out 2).trans rfl
   have hcz23_3 : w5.cell? ⟨gb233, 3, none⟩ = some (.slice A0_3 l0_3.length c0_3) := (blk_cell BK233.out 3).trans rfl
   have hcz23_4 : w5.cell? ⟨gb233, 4, none⟩ = some (.slice A0_4 l0_4.length c0_4) := (blk_cell BK233.out 4).trans rfl
   have hfz23_0 := blk_frozen BK233.out 0
   have hfz23_1 := blk_frozen BK233.out 1
   have hfz23_2 := blk_frozen BK233.out 2
   have hfz23_3 := blk_frozen BK233.out 3
   have hfz23_4 := blk_frozen BK233.out 4
   have hcz24_0 : w5.cell? ⟨gb234, 0, none⟩ = some (.int .i64 a1_0) := (blk_cell BK234.out 0).trans rfl
   have hcz24_1 : w5.cell? ⟨gb234, 1, none⟩ = some (.int .i64 a1_1) := (blk_cell BK234.out 1).trans rfl
   have hcz24_2 : w5.cell? ⟨gb234, 2, none⟩ = some (.slice A1_2 l1_2.length c1_2) := (blk_cell BK234.out 2).trans rfl
   have hcz24_3 : w5.cell? ⟨gb234, 3, none⟩ = some (.slice A1_3 l1_3.length c1_3) := (blk_cell BK234.out 3).trans rfl
   have hcz24_4 : w5.cell? ⟨gb234, 4, none⟩ = some (.slice A1_4 l1_4.length c1_4) := (blk_cell BK234.out 4).trans rfl
   have hfz24_0 := blk_frozen BK234.out 0
   have hfz24_1 := blk_frozen BK234.out 1
   have hfz24_2 := blk_frozen BK234.out 2
   have hfz24_3 := blk_frozen BK234.out 3
   have hfz24_4 := blk_frozen BK234.out 4
   go_wp2
   go_meet
   case rel => exact ⟨_, (true), (by first | rfl | (simp; done) | (simp [*]; done)), H', ⟨by first | omega | exact Nat.le_refl _⟩, ⟨by (with_reducible repeat first | apply bn | apply bd | apply ba); exact BK233.out⟩, ⟨by (with_reducible repeat first | apply bn | apply bd | apply ba); exact BK234.out⟩, ⟨by repeat (first | (with_reducible first | exact HB.out | apply wa | apply wn | apply wd | refine ws ?_ GE233.out | refine ws ?_ GE234.out) | exact HB.out)⟩⟩
 case rest =>
  clear HC3
  try clear c1
  try clear c2
  try clear p2
  try clear c6
  try clear c6b0
  try clear c6b1
  try clear c7
  try clear c7b0
  try clear c7b1
  try clear c8
  try clear c8b0
  try clear c8b1
  try clear c8b2
  try clear c9
  try clear c9b0
  try clear c9b1
  try clear c9b2
  try clear c10
  try clear c13
  try clear c16
  try clear c19
  try clear c22
  try clear c23
  try clear hcz11_0
  try clear hcz11_1
  try clear hcz11_2
  try clear hcz11_3
  try clear hcz11_4
  try clear hcz12_0
  try clear hcz12_1
  try clear hcz12_2
  try clear hcz12_3
  try clear hcz12_4
  try clear hcz14_0
  try clear hcz14_1
  try clear hcz14_2
  try clear hcz14_3
  try clear hcz14_4
  try clear hcz15_0
  try clear hcz15_1
  try clear hcz15_2
  try clear hcz15_3
  try clear hcz15_4
  try clear hcz17_0
  try clear hcz17_1
  try clear hcz17_2
  try clear hcz17_3
  try clear hcz17_4
  try clear hcz18_0
  try clear hcz18_1
  try clear hcz18_2
  try clear hcz18_3
  try clear hcz18_4
  try clear hcz20_0
  try clear hcz20_1
  try clear hcz20_2
  try clear hcz20_3
  try clear hcz20_4
  try clear hcz21_0
  try clear hcz21_1
  try clear hcz21_2
  try clear hcz21_3
  try clear hcz21_4
  try clear hcz23_0
  try clear hcz23_1
  try clear hcz23_2
  try clear hcz23_3
  try clear hcz23_4
  try clear hcz24_0
  try clear hcz24_1
  try clear hcz24_2
  try clear hcz24_3
  try clear hcz24_4
  try clear hfz11_0
  try clear hfz11_1
  try clear hfz11_2
  try clear hfz11_3
  try clear hfz11_4
  try clear hfz12_0
  try clear hfz12_1
  try clear hfz12_2
  try clear hfz12_3
  try clear hfz12_4
  try clear hfz14_0
  try clear hfz14_1
  try clear hfz14_2
  try clear hfz14_3
  try clear hfz14_4
  try clear hfz15_0
  try clear hfz15_1
  try clear hfz15_2
  try clear hfz15_3
  try clear hfz15_4
  try clear hfz17_0
  try clear hfz17_1
  try clear hfz17_2
  try clear hfz17_3
  try clear hfz17_4
  try clear hfz18_0
  try clear hfz18_1
  try clear hfz18_2
  try clear hfz18_3
  try clear hfz18_4
  try clear hfz20_0
  try clear hfz20_1
  try clear hfz20_2
  try clear hfz20_3
  try clear hfz20_4
  try clear hfz21_0
  try clear hfz21_1
  try clear hfz21_2
  try clear hfz21_3
  try clear hfz21_4
  try clear hfz23_0
  try clear hfz23_1
  try clear hfz23_2
  try clear hfz23_3
  try clear hfz23_4
  try clear hfz24_0
  try clear hfz24_1
  try clear hfz24_2
  try clear hfz24_3
  try clear hfz24_4
  obtain ⟨kq, x46_2, rfl, HA, HJ2, BK233, BK234, HB⟩ := hcut
  cases kq with
  | zero => exact absurd HA.out (by simp [parcloseref03_Same.j0])
  | succ kj2 =>
   have H := HA.out
   clear HA
   simp only [parcloseref03_Same.j0] at H
   by_cases c25 : x46_2 = true
   ·subst c25
    have H1 : (some false) = some r := by rw [if_pos rfl] at H; exact H
    clear H
    have H := H1
    clear H1
    obtain rfl := Option.some.inj H
    go_wp2
    go_ret
    exact ⟨by first | rfl | (simp [*] <;> rfl), by repeat (first | (with_reducible first | exact HB.out | apply wa | apply wn | apply wd | refine ws ?_ GE233.out | refine ws ?_ GE234.out) | exact HB.out)⟩
   ·replace c25 := Bool.eq_false_iff.mpr c25
    subst c25
    have H1 : (parcloseref03_Same.l0 kj2 0 a0_0 a0_1 l0_2 l0_3 l0_4 a1_0 a1_1 l1_2 l1_3 l1_4) = some r := by rw [if_neg (show ¬ (false = true) by decide)] at H; exact H
    clear H
    have H := H1
    clear H1
    have H' := asd H
    clear H
    go_wp2
    go_loopg [5] kj2 (fun kq v5 w' => ∃ (x5_2 : Int), v5 = .int .i64 x5_2 ∧ Aside0 (parcloseref03_Same.l0 kq x5_2 a0_0 a0_1 l0_2 l0_3 l0_4 a1_0 a1_1 l1_2 l1_3 l1_4 = some r) ∧ Aside0 (kq ≤ kj2) ∧ Aside0 (w'.heap[gb233]? = some (.cells #[.int .i64 a0_0, .int .i64 a0_1, (.slice A0_2 l0_2.length c0_2), (.slice A0_3 l0_3.length c0_3), (.slice A0_4 l0_4.length c0_4)] 26 (0, 0))) ∧ Aside0 (w'.heap[gb234]? = some (.cells #[.int .i64 a1_0, .int .i64 a1_1, (.slice A1_2 l1_2.length c1_2), (.slice A1_3 l1_3.length c1_3), (.slice A1_4 l1_4.length c1_4)] 26 (0, 0))) ∧ Aside0 (Below w.heap.size w w'))
    case atStart => exact ⟨(0), (by first | rfl | (simp; done) | (simp [*]; done)), H', ⟨Nat.le_refl _⟩, ⟨by (with_reducible repeat first | apply bn | apply bd | apply ba); exact BK233.out⟩, ⟨by (with_reducible repeat first | apply bn | apply bd | apply ba); exact BK234.out⟩, ⟨by repeat (first | (with_reducible first | exact HB.out | apply wa | apply wn | apply wd | refine ws ?_ GE233.out | refine ws ?_ GE234.out) | exact HB.out)⟩⟩
    case round =>
     clear H'
     try clear c1
     try clear c2
     try clear p2
     try clear c6
     try clear c6b0
     try clear c6b1
     try clear c7
     try clear c7b0
     try clear c7b1
     try clear c8
     try clear c8b0
     try clear c8b1
     try clear c8b2
     try clear c9
     try clear c9b0
     try clear c9b1
     try clear c9b2
     try clear c10
     try clear c13
     try clear c16
     try clear c19
     try clear c22
     try clear c23
     try clear c25
     try clear hcz11_0
     try clear hcz11_1
     try clear hcz11_2
     try clear hcz11_3
     try clear hcz11_4
     try clear hcz12_0
     try clear hcz12_1
     try clear hcz12_2
     try clear hcz12_3
     try clear hcz12_4
     try clear hcz14_0
     try clear hcz14_1
     try clear hcz14_2
     try clear hcz14_3
     try clear hcz14_4
     try clear hcz15_0
     try clear hcz15_1
     try clear hcz15_2
     try clear hcz15_3
     try clear hcz15_4
     try clear hcz17_0
     try clear hcz17_1
     try clear hcz17_2
     try clear hcz17_3
     try clear hcz17_4
     try clear hcz18_0
     try clear hcz18_1
     try clear hcz18_2
     try clear hcz18_3
     try clear hcz18_4
     try clear hcz20_0
     try clear hcz20_1
     try clear hcz20_2
     try clear hcz20_3
     try clear hcz20_4
     try clear hcz21_0
     try clear hcz21_1
     try clear hcz21_2
     try clear hcz21_3
     try clear hcz21_4
     try clear hcz23_0
     try clear hcz23_1
     try clear hcz23_2
     try clear hcz23_3
     try clear hcz23_4
     try clear hcz24_0
     try clear hcz24_1
     try clear hcz24_2
     try clear hcz24_3
     try clear hcz24_4
     try clear hfz11_0
     try clear hfz11_1
     try clear hfz11_2
     try clear hfz11_3
     try clear hfz11_4
     try clear hfz12_0
     try clear hfz12_1
     try clear hfz12_2
     try clear hfz12_3
     try clear hfz12_4
     try clear hfz14_0
     try clear hfz14_1
     try clear hfz14_2
     try clear hfz14_3
     try clear hfz14_4
     try clear hfz15_0
     try clear hfz15_1
     try clear hfz15_2
     try clear hfz15_3
     try clear hfz15_4
     try clear hfz17_0
     try clear hfz17_1
     try clear hfz17_2
     try clear hfz17_3
     try clear hfz17_4
     try clear hfz18_0
     try clear hfz18_1
     try clear hfz18_2
     try clear hfz18_3
     try clear hfz18_4
     try clear hfz20_0
     try clear hfz20_1
     try clear hfz20_2
     try clear hfz20_3
     try clear hfz20_4
     try clear hfz21_0
     try clear hfz21_1
     try clear hfz21_2
     try clear hfz21_3
     try clear hfz21_4
     try clear hfz23_0
     try clear hfz23_1
     try clear hfz23_2
     try clear hfz23_3
     try clear hfz23_4
     try clear hfz24_0
     try clear hfz24_1
     try clear hfz24_2
     try clear hfz24_3
     try clear hfz24_4
     try clear p2
     obtain ⟨x5_2, rfl, HA, HK2, BK233, BK234, HB⟩ := hrel
     cases gk with
     | zero => exact absurd HA.out (by simp [parcloseref03_Same.l0])
     | succ k2 =>
      have H := HA.out
      clear HA
      simp only [parcloseref03_Same.l0] at H
      by_cases c26 : x5_2 < (l0_2.length : Int)
      ·rw [if_pos c26] at H
       have c26b0 : decide (x5_2 < (l0_2.length : Int)) = true := decide_eq_true c26
       clear c26
       by_cases c27 : 0 ≤ x5_2
       ·rw [if_pos c27] at H
        have c27b0 : decide (0 ≤ x5_2) = true := decide_eq_true c27
        clear c27
        by_cases c28 : x5_2 < (l1_2.length : Int)
        ·rw [if_pos c28] at H
         have c28b0 : decide (x5_2 < (l1_2.length : Int)) = true := decide_eq_true c28
         clear c28
         by_cases c29 : (!(((rd_T77 l0_2 x5_2).f0) == ((rd_T77 l1_2 x5_2).f0)) || (!(((rd_T77 l0_2 x5_2).f1) == ((rd_T77 l1_2 x5_2).f1)) || (!(((rd_T77 l0_2 x5_2).f2) == ((rd_T77 l1_2 x5_2).f2))))) = true
         ·rw [if_pos c29] at H
          have c29b0 : (!(((rd_T77 l0_2 x5_2).f0) == ((rd_T77 l1_2 x5_2).f0)) || (!(((rd_T77 l0_2 x5_2).f1) == ((rd_T77 l1_2 x5_2).f1)) || (!(((rd_T77 l0_2 x5_2).f2) == ((rd_T77 l1_2 x5_2).f2))))) = true := c29
          clear c29
          obtain rfl := Option.some.inj H
          have hnb30 := NB233_234.out
          have hnc30 := NB234_233.out
          have hcz31_0 : wr.cell? ⟨gb233, 0, none⟩ = some (.int .i64 a0_0) := (blk_cell BK233.out 0).trans rfl
          have hcz31_1 : wr.cell? ⟨gb233, 1, none⟩ = some (.int .i64 a0_1) := (blk_cell BK233.out 1).trans rfl
          have hcz31_2 : wr.cell? ⟨gb233, 2, none⟩ = some (.slice A0_2 l0_2.length c0_2) := (blk_cell BK233.out 2).trans rfl
          have hcz31_3 : wr.cell? ⟨gb233, 3, none⟩ = some (.slice A0_3 l0_3.length c0_3) := (blk_cell BK233.out 3).trans rfl
          have hcz31_4 : wr.cell? ⟨gb233, 4, none⟩ = some (.slice A0_4 l0_4.length c0_4) := (blk_cell BK233.out 4).trans rfl
          have hfz31_0 := blk_frozen BK233.out 0
          have hfz31_1 := blk_frozen BK233.out 1
          have hfz31_2 := blk_frozen BK233.out 2
          have hfz31_3 := blk_frozen BK233.out 3
          have hfz31_4 := blk_frozen BK233.out 4
          try go_wp2
          have n0_ := asd (blk_drew BK233.out)
          have n1_ := asd (blk_drew BK234.out)
          have n2_ := asd (below_drew1 HB.out)
          clear BK233
          clear BK234
          clear HB
          have BK233 := n0_
          have BK234 := n1_
          have HB := n2_
          clear n0_ n1_ n2_
          have p235 : 0 ≤ (x5_2 : Int) := of_decide_eq_true (by assumption)
          have q235 : x5_2 < (l0_2.length : Int) := of_decide_eq_true (by assumption)
          obtain ⟨ad235, e235, hx235_0, hx235_1, hx235_2⟩ := at_T77 HR0_2.out x5_2 p235 q235
          have hw235_2 := hx235_2
          have hw235_1 := hx235_1
          have hw235_0 := hx235_0
          cases e235
          replace hx235_0 := (HB.out.cell (World.block_lt_of_cell? w _ hx235_0)).trans hx235_0
          replace hx235_1 := (HB.out.cell (World.block_lt_of_cell? w _ hx235_1)).trans hx235_1
          replace hx235_2 := (HB.out.cell (World.block_lt_of_cell? w _ hx235_2)).trans hx235_2
          replace p235 := eq_true p235
          replace q235 := eq_true q235
          have p236 : 0 ≤ (x5_2 : Int) := of_decide_eq_true (by assumption)
          have q236 : x5_2 < (l1_2.length : Int) := of_decide_eq_true (by assumption)
          obtain ⟨ad236, e236, hx236_0, hx236_1, hx236_2⟩ := at_T77 HR1_2.out x5_2 p236 q236
          have hw236_2 := hx236_2
          have hw236_1 := hx236_1
          have hw236_0 := hx236_0
          cases e236
          replace hx236_0 := (HB.out.cell (World.block_lt_of_cell? w _ hx236_0)).trans hx236_0
          replace hx236_1 := (HB.out.cell (World.block_lt_of_cell? w _ hx236_1)).trans hx236_1
          replace hx236_2 := (HB.out.cell (World.block_lt_of_cell? w _ hx236_2)).trans hx236_2
          replace p236 := eq_true p236
          replace q236 := eq_true q236
          refine start_ (n := 11) (S := fun w' => w'.cell? ⟨gb233, 0, none⟩ = some (.int .i64 a0_0) ∧ w'.cell? ⟨gb233, 1, none⟩ = some (.int .i64 a0_1) ∧ w'.cell? ⟨gb233, 2, none⟩ = some (.slice (some ad235) l0_2.length c0_2) ∧ w'.cell? ⟨gb233, 3, none⟩ = some (.slice A0_3 l0_3.length c0_3) ∧ w'.cell? ⟨gb233, 4, none⟩ = some (.slice A0_4 l0_4.length c0_4) ∧ w'.cell? ⟨gb234, 0, none⟩ = some (.int .i64 a1_0) ∧ w'.cell? ⟨gb234, 1, none⟩ = some (.int .i64 a1_1) ∧ w'.cell? ⟨gb234, 2, none⟩ = some (.slice (some ad236) l1_2.length c1_2) ∧ w'.cell? ⟨gb234, 3, none⟩ = some (.slice A1_3 l1_3.length c1_3) ∧ w'.cell? ⟨gb234, 4, none⟩ = some (.slice A1_4 l1_4.length c1_4) ∧ w'.cell? (ad235.add ((x5_2).toNat * 3)) = some (.int .i64 ((rd_T77 l0_2 x5_2).f0)) ∧ w'.cell? ⟨(ad235.add ((x5_2).toNat * 3)).block, (ad235.add ((x5_2).toNat * 3)).off + 1, none⟩ = some (.int .i64 ((rd_T77 l0_2 x5_2).f1)) ∧ w'.cell? ⟨(ad235.add ((x5_2).toNat * 3)).block, (ad235.add ((x5_2).toNat * 3)).off + 2, none⟩ = some (.int .i64 ((rd_T77 l0_2 x5_2).f2)) ∧ w'.cell? (ad236.add ((x5_2).toNat * 3)) = some (.int .i64 ((rd_T77 l1_2 x5_2).f0)) ∧ w'.cell? ⟨(ad236.add ((x5_2).toNat * 3)).block, (ad236.add ((x5_2).toNat * 3)).off + 1, none⟩ = some (.int .i64 ((rd_T77 l1_2 x5_2).f1)) ∧ w'.cell? ⟨(ad236.add ((x5_2).toNat * 3)).block, (ad236.add ((x5_2).toNat * 3)).off + 2, none⟩ = some (.int .i64 ((rd_T77 l1_2 x5_2).f2))) (ds := []) #[false, false, false, false, false, false, false, false, false, false, false] (by kernel_rfl) rfl rfl ⟨(blk_cell BK233.out 0).trans rfl, (blk_cell BK233.out 1).trans rfl, (blk_cell BK233.out 2).trans rfl, (blk_cell BK233.out 3).trans rfl, (blk_cell BK233.out 4).trans rfl, (blk_cell BK234.out 0).trans rfl, (blk_cell BK234.out 1).trans rfl, (blk_cell BK234.out 2).trans rfl, (blk_cell BK234.out 3).trans rfl, (blk_cell BK234.out 4).trans rfl, ((HB.out.cell (World.block_lt_of_cell? w _ hw235_0)).trans hw235_0), ((HB.out.cell (World.block_lt_of_cell? w _ hw235_1)).trans hw235_1), ((HB.out.cell (World.block_lt_of_cell? w _ hw235_2)).trans hw235_2), ((HB.out.cell (World.block_lt_of_cell? w _ hw236_0)).trans hw236_0), ((HB.out.cell (World.block_lt_of_cell? w _ hw236_1)).trans hw236_1), ((HB.out.cell (World.block_lt_of_cell? w _ hw236_2)).trans hw236_2)⟩ (fun hHeld => ?_); refine with_tabW parcloseref03_Same.tab6 parcloseref03_Same.bits6 (fun HT_ HW_ => ?_)
          generalize wr.drew = w32 at BK233 BK234 HB hx235_0 hx235_1 hx235_2 hx236_0 hx236_1 hx236_2 hHeld ⊢
          refine pure_ (i := 0) (N := some 54) (v := ?_) (a' := ?_) #[true, false, false, false, false, false, false, false, false, false, false] rfl rfl (any_of HT_.out (by kernel_rfl)) (fun _ _ _ h => h) (Or.inl ⟨by rfl, ?_⟩) ?_ ?_
          rotate_left
          ·intro w'
           go_simp
           with_reducible rfl
          rotate_left
          ·simp only [Act.put, sB, i64_w, i32_w]
           rfl
          refine pure_ (i := 2) (N := some 56) (v := ?_) (a' := ?_) #[true, false, true, false, false, false, false, false, false, false, false] rfl rfl (any_of HT_.out (by kernel_rfl)) (fun _ _ _ h => h) (Or.inl ⟨by rfl, ?_⟩) ?_ ?_
          rotate_left
          ·intro w'
           go_simp
           with_reducible rfl
          rotate_left
          ·simp only [Act.put, sB, i64_w, i32_w]
           rfl
          refine pure_ (i := 5) (N := some 59) (v := ?_) (a' := ?_) #[true, false, true, false, false, true, false, false, false, false, false] rfl rfl (any_of HT_.out (by kernel_rfl)) (fun _ _ _ h => h) (Or.inl ⟨by rfl, ?_⟩) ?_ ?_
          rotate_left
          ·intro w'
           go_simp
           with_reducible rfl
          rotate_left
          ·simp only [Act.put, sB, i64_w, i32_w]
           rfl
          refine pure_ (i := 7) (N := some 61) (v := ?_) (a' := ?_) #[true, false, true, false, false, true, false, true, false, false, false] rfl rfl (any_of HT_.out (by kernel_rfl)) (fun _ _ _ h => h) (Or.inl ⟨by rfl, ?_⟩) ?_ ?_
          rotate_left
          ·intro w'
           go_simp
           with_reducible rfl
          rotate_left
          ·simp only [Act.put, sB, i64_w, i32_w]
           rfl
          refine take_ (i := 1) (N := some 55) (v := ?_) (a' := ?_) #[true, true, true, false, false, true, false, true, false, false, false] rfl rfl (take_ofW HT_.out HW_.out (by kernel_rfl)) (fun _ _ _ h => h) (Or.inl ⟨by rfl, ?_⟩) hHeld ?_ ?_
          rotate_left
          ·rintro w' ⟨s0, s1, s2, s3, s4, s5, s6, s7, s8, s9, s10, s11, s12, s13, s14, s15⟩
           go_simp
           with_reducible rfl
          rotate_left
          ·simp only [Act.put, sB, i64_w, i32_w]
           rfl
          refine pure_ (i := 3) (N := some 57) (v := ?_) (a' := ?_) #[true, true, true, true, false, true, false, true, false, false, false] rfl rfl (any_of HT_.out (by kernel_rfl)) (fun _ _ _ h => h) (Or.inl ⟨by rfl, ?_⟩) ?_ ?_
          rotate_left
          ·intro w'
           go_simp
           with_reducible rfl
          rotate_left
          ·simp only [Act.put, sB, i64_w, i32_w]
           rfl
          refine take_ (i := 4) (N := some 58) (v := ?_) (a' := ?_) #[true, true, true, true, true, true, false, true, false, false, false] rfl rfl (take_ofW HT_.out HW_.out (by kernel_rfl)) (fun _ _ _ h => h) (Or.inl ⟨by rfl, ?_⟩) hHeld ?_ ?_
          rotate_left
          ·rintro w' ⟨s0, s1, s2, s3, s4, s5, s6, s7, s8, s9, s10, s11, s12, s13, s14, s15⟩
           go_simp
           with_reducible rfl
          rotate_left
          ·simp only [Act.put, sB, i64_w, i32_w]
           rfl
          refine take_ (i := 6) (N := some 60) (v := ?_) (a' := ?_) #[true, true, true, true, true, true, true, true, false, false, false] rfl rfl (take_ofW HT_.out HW_.out (by kernel_rfl)) (fun _ _ _ h => h) (Or.inl ⟨by rfl, ?_⟩) hHeld ?_ ?_
          rotate_left
          ·rintro w' ⟨s0, s1, s2, s3, s4, s5, s6, s7, s8, s9, s10, s11, s12, s13, s14, s15⟩
           go_simp
           with_reducible rfl
          rotate_left
          ·simp only [Act.put, sB, i64_w, i32_w]
           rfl
          refine pure_ (i := 8) (N := some 62) (v := ?_) (a' := ?_) #[true, true, true, true, true, true, true, true, true, false, false] rfl rfl (any_of HT_.out (by kernel_rfl)) (fun _ _ _ h => h) (Or.inl ⟨by rfl, ?_⟩) ?_ ?_
          rotate_left
          ·intro w'
           go_simp
           with_reducible rfl
          rotate_left
          ·simp only [Act.put, sB, i64_w, i32_w]
           rfl
          refine take_ (i := 9) (N := some 63) (v := ?_) (a' := ?_) #[true, true, true, true, true, true, true, true, true, true, false] rfl rfl (take_ofW HT_.out HW_.out (by kernel_rfl)) (fun _ _ _ h => h) (Or.inl ⟨by rfl, ?_⟩) hHeld ?_ ?_
          rotate_left
          ·rintro w' ⟨s0, s1, s2, s3, s4, s5, s6, s7, s8, s9, s10, s11, s12, s13, s14, s15⟩
           go_simp
           with_reducible rfl
          rotate_left
          ·simp only [Act.put, sB, i64_w, i32_w]
           rfl
          refine pure_ (i := 10) (N := some 64) (v := ?_) (a' := ?_) #[true, true, true, true, true, true, true, true, true, true, true] rfl rfl (any_of HT_.out (by kernel_rfl)) (fun _ _ _ h => h) (Or.inl ⟨by rfl, ?_⟩) ?_ ?_
          rotate_left
          ·intro w'
           go_simp
           with_reducible rfl
          rotate_left
          ·simp only [Act.put, sB, i64_w, i32_w]
           rfl
          refine done_ (done_of HT_.out (by kernel_rfl)) ?_
          try go_wp2
          go_ret
          exact ⟨by first | rfl | (simp [*] <;> rfl), by repeat (first | (with_reducible first | exact HB.out | apply wa | apply wn | apply wd | refine ws ?_ GE233.out | refine ws ?_ GE234.out) | exact HB.out)⟩
         ·rw [if_neg c29] at H
          have c29b0 : (!(((rd_T77 l0_2 x5_2).f0) == ((rd_T77 l1_2 x5_2).f0)) || (!(((rd_T77 l0_2 x5_2).f1) == ((rd_T77 l1_2 x5_2).f1)) || (!(((rd_T77 l0_2 x5_2).f2) == ((rd_T77 l1_2 x5_2).f2))))) = false := by simpa using c29
          clear c29
          have H' := asd H
          clear H
          have hnb33 := NB233_234.out
          have hnc33 := NB234_233.out
          have hcz34_0 : wr.cell? ⟨gb233, 0, none⟩ = some (.int .i64 a0_0) := (blk_cell BK233.out 0).trans rfl
          have hcz34_1 : wr.cell? ⟨gb233, 1, none⟩ = some (.int .i64 a0_1) := (blk_cell BK233.out 1).trans rfl
          have hcz34_2 : wr.cell? ⟨gb233, 2, none⟩ = some (.slice A0_2 l0_2.length c0_2) := (blk_cell BK233.out 2).trans rfl
          have hcz34_3 : wr.cell? ⟨gb233, 3, none⟩ = some (.slice A0_3 l0_3.length c0_3) := (blk_cell BK233.out 3).trans rfl
          have hcz34_4 : wr.cell? ⟨gb233, 4, none⟩ = some (.slice A0_4 l0_4.length c0_4) := (blk_cell BK233.out 4).trans rfl
          have hfz34_0 := blk_frozen BK233.out 0
          have hfz34_1 := blk_frozen BK233.out 1
          have hfz34_2 := blk_frozen BK233.out 2
          have hfz34_3 := blk_frozen BK233.out 3
          have hfz34_4 := blk_frozen BK233.out 4
          try go_wp2
          have n0_ := asd (blk_drew BK233.out)
          have n1_ := asd (blk_drew BK234.out)
          have n2_ := asd (below_drew1 HB.out)
          clear BK233
          clear BK234
          clear HB
          have BK233 := n0_
          have BK234 := n1_
          have HB := n2_
          clear n0_ n1_ n2_
          have p235 : 0 ≤ (x5_2 : Int) := of_decide_eq_true (by assumption)
          have q235 : x5_2 < (l0_2.length : Int) := of_decide_eq_true (by assumption)
          obtain ⟨ad235, e235, hx235_0, hx235_1, hx235_2⟩ := at_T77 HR0_2.out x5_2 p235 q235
          have hw235_2 := hx235_2
          have hw235_1 := hx235_1
          have hw235_0 := hx235_0
          cases e235
          replace hx235_0 := (HB.out.cell (World.block_lt_of_cell? w _ hx235_0)).trans hx235_0
          replace hx235_1 := (HB.out.cell (World.block_lt_of_cell? w _ hx235_1)).trans hx235_1
          replace hx235_2 := (HB.out.cell (World.block_lt_of_cell? w _ hx235_2)).trans hx235_2
          replace p235 := eq_true p235
          replace q235 := eq_true q235
          have p236 : 0 ≤ (x5_2 : Int) := of_decide_eq_true (by assumption)
          have q236 : x5_2 < (l1_2.length : Int) := of_decide_eq_true (by assumption)
          obtain ⟨ad236, e236, hx236_0, hx236_1, hx236_2⟩ := at_T77 HR1_2.out x5_2 p236 q236
          have hw236_2 := hx236_2
          have hw236_1 := hx236_1
          have hw236_0 := hx236_0
          cases e236
          replace hx236_0 := (HB.out.cell (World.block_lt_of_cell? w _ hx236_0)).trans hx236_0
          replace hx236_1 := (HB.out.cell (World.block_lt_of_cell? w _ hx236_1)).trans hx236_1
          replace hx236_2 := (HB.out.cell (World.block_lt_of_cell? w _ hx236_2)).trans hx236_2
          replace p236 := eq_true p236
          replace q236 := eq_true q236
          refine start_ (n := 11) (S := fun w' => w'.cell? ⟨gb233, 0, none⟩ = some (.int .i64 a0_0) ∧ w'.cell? ⟨gb233, 1, none⟩ = some (.int .i64 a0_1) ∧ w'.cell? ⟨gb233, 2, none⟩ = some (.slice (some ad235) l0_2.length c0_2) ∧ w'.cell? ⟨gb233, 3, none⟩ = some (.slice A0_3 l0_3.length c0_3) ∧ w'.cell? ⟨gb233, 4, none⟩ = some (.slice A0_4 l0_4.length c0_4) ∧ w'.cell? ⟨gb234, 0, none⟩ = some (.int .i64 a1_0) ∧ w'.cell? ⟨gb234, 1, none⟩ = some (.int .i64 a1_1) ∧ w'.cell? ⟨gb234, 2, none⟩ = some (.slice (some ad236) l1_2.length c1_2) ∧ w'.cell? ⟨gb234, 3, none⟩ = some (.slice A1_3 l1_3.length c1_3) ∧ w'.cell? ⟨gb234, 4, none⟩ = some (.slice A1_4 l1_4.length c1_4) ∧ w'.cell? (ad235.add ((x5_2).toNat * 3)) = some (.int .i64 ((rd_T77 l0_2 x5_2).f0)) ∧ w'.cell? ⟨(ad235.add ((x5_2).toNat * 3)).block, (ad235.add ((x5_2).toNat * 3)).off + 1, none⟩ = some (.int .i64 ((rd_T77 l0_2 x5_2).f1)) ∧ w'.cell? ⟨(ad235.add ((x5_2).toNat * 3)).block, (ad235.add ((x5_2).toNat * 3)).off + 2, none⟩ = some (.int .i64 ((rd_T77 l0_2 x5_2).f2)) ∧ w'.cell? (ad236.add ((x5_2).toNat * 3)) = some (.int .i64 ((rd_T77 l1_2 x5_2).f0)) ∧ w'.cell? ⟨(ad236.add ((x5_2).toNat * 3)).block, (ad236.add ((x5_2).toNat * 3)).off + 1, none⟩ = some (.int .i64 ((rd_T77 l1_2 x5_2).f1)) ∧ w'.cell? ⟨(ad236.add ((x5_2).toNat * 3)).block, (ad236.add ((x5_2).toNat * 3)).off + 2, none⟩ = some (.int .i64 ((rd_T77 l1_2 x5_2).f2))) (ds := []) #[false, false, false, false, false, false, false, false, false, false, false] (by kernel_rfl) rfl rfl ⟨(blk_cell BK233.out 0).trans rfl, (blk_cell BK233.out 1).trans rfl, (blk_cell BK233.out 2).trans rfl, (blk_cell BK233.out 3).trans rfl, (blk_cell BK233.out 4).trans rfl, (blk_cell BK234.out 0).trans rfl, (blk_cell BK234.out 1).trans rfl, (blk_cell BK234.out 2).trans rfl, (blk_cell BK234.out 3).trans rfl, (blk_cell BK234.out 4).trans rfl, ((HB.out.cell (World.block_lt_of_cell? w _ hw235_0)).trans hw235_0), ((HB.out.cell (World.block_lt_of_cell? w _ hw235_1)).trans hw235_1), ((HB.out.cell (World.block_lt_of_cell? w _ hw235_2)).trans hw235_2), ((HB.out.cell (World.block_lt_of_cell? w _ hw236_0)).trans hw236_0), ((HB.out.cell (World.block_lt_of_cell? w _ hw236_1)).trans hw236_1), ((HB.out.cell (World.block_lt_of_cell? w _ hw236_2)).trans hw236_2)⟩ (fun hHeld => ?_); refine with_tabW parcloseref03_Same.tab6 parcloseref03_Same.bits6 (fun HT_ HW_ => ?_)
          generalize wr.drew = w35 at BK233 BK234 HB hx235_0 hx235_1 hx235_2 hx236_0 hx236_1 hx236_2 hHeld ⊢
          refine pure_ (i := 0) (N := some 54) (v := ?_) (a' := ?_) #[true, false, false, false, false, false, false, false, false, false, false] rfl rfl (any_of HT_.out (by kernel_rfl)) (fun _ _ _ h => h) (Or.inl ⟨by rfl, ?_⟩) ?_ ?_
          rotate_left
          ·intro w'
           go_simp
           with_reducible rfl
          rotate_left
          ·simp only [Act.put, sB, i64_w, i32_w]
           rfl
          refine pure_ (i := 2) (N := some 56) (v := ?_) (a' := ?_) #[true, false, true, false, false, false, false, false, false, false, false] rfl rfl (any_of HT_.out (by kernel_rfl)) (fun _ _ _ h => h) (Or.inl ⟨by rfl, ?_⟩) ?_ ?_
          rotate_left
          ·intro w'
           go_simp
           with_reducible rfl
          rotate_left
          ·simp only [Act.put, sB, i64_w, i32_w]
           rfl
          refine pure_ (i := 5) (N := some 59) (v := ?_) (a' := ?_) #[true, false, true, false, false, true, false, false, false, false, false] rfl rfl (any_of HT_.out (by kernel_rfl)) (fun _ _ _ h => h) (Or.inl ⟨by rfl, ?_⟩) ?_ ?_
          rotate_left
          ·intro w'
           go_simp
           with_reducible rfl
          rotate_left
          ·simp only [Act.put, sB, i64_w, i32_w]
           rfl
          refine pure_ (i := 7) (N := some 61) (v := ?_) (a' := ?_) #[true, false, true, false, false, true, false, true, false, false, false] rfl rfl (any_of HT_.out (by kernel_rfl)) (fun _ _ _ h => h) (Or.inl ⟨by rfl, ?_⟩) ?_ ?_
          rotate_left
          ·intro w'
           go_simp
           with_reducible rfl
          rotate_left
          ·simp only [Act.put, sB, i64_w, i32_w]
           rfl
          refine take_ (i := 1) (N := some 55) (v := ?_) (a' := ?_) #[true, true, true, false, false, true, false, true, false, false, false] rfl rfl (take_ofW HT_.out HW_.out (by kernel_rfl)) (fun _ _ _ h => h) (Or.inl ⟨by rfl, ?_⟩) hHeld ?_ ?_
          rotate_left
          ·rintro w' ⟨s0, s1, s2, s3, s4, s5, s6, s7, s8, s9, s10, s11, s12, s13, s14, s15⟩
           go_simp
           with_reducible rfl
          rotate_left
          ·simp only [Act.put, sB, i64_w, i32_w]
           rfl
          refine pure_ (i := 3) (N := some 57) (v := ?_) (a' := ?_) #[true, true, true, true, false, true, false, true, false, false, false] rfl rfl (any_of HT_.out (by kernel_rfl)) (fun _ _ _ h => h) (Or.inl ⟨by rfl, ?_⟩) ?_ ?_
          rotate_left
          ·intro w'
           go_simp
           with_reducible rfl
          rotate_left
          ·simp only [Act.put, sB, i64_w, i32_w]
           rfl
          refine take_ (i := 4) (N := some 58) (v := ?_) (a' := ?_) #[true, true, true, true, true, true, false, true, false, false, false] rfl rfl (take_ofW HT_.out HW_.out (by kernel_rfl)) (fun _ _ _ h => h) (Or.inl ⟨by rfl, ?_⟩) hHeld ?_ ?_
          rotate_left
          ·rintro w' ⟨s0, s1, s2, s3, s4, s5, s6, s7, s8, s9, s10, s11, s12, s13, s14, s15⟩
           go_simp
           with_reducible rfl
          rotate_left
          ·simp only [Act.put, sB, i64_w, i32_w]
           rfl
          refine take_ (i := 6) (N := some 60) (v := ?_) (a' := ?_) #[true, true, true, true, true, true, true, true, false, false, false] rfl rfl (take_ofW HT_.out HW_.out (by kernel_rfl)) (fun _ _ _ h => h) (Or.inl ⟨by rfl, ?_⟩) hHeld ?_ ?_
          rotate_left
          ·rintro w' ⟨s0, s1, s2, s3, s4, s5, s6, s7, s8, s9, s10, s11, s12, s13, s14, s15⟩
           go_simp
           with_reducible rfl
          rotate_left
          ·simp only [Act.put, sB, i64_w, i32_w]
           rfl
          refine pure_ (i := 8) (N := some 62) (v := ?_) (a' := ?_) #[true, true, true, true, true, true, true, true, true, false, false] rfl rfl (any_of HT_.out (by kernel_rfl)) (fun _ _ _ h => h) (Or.inl ⟨by rfl, ?_⟩) ?_ ?_
          rotate_left
          ·intro w'
           go_simp
           with_reducible rfl
          rotate_left
          ·simp only [Act.put, sB, i64_w, i32_w]
           rfl
          refine take_ (i := 9) (N := some 63) (v := ?_) (a' := ?_) #[true, true, true, true, true, true, true, true, true, true, false] rfl rfl (take_ofW HT_.out HW_.out (by kernel_rfl)) (fun _ _ _ h => h) (Or.inl ⟨by rfl, ?_⟩) hHeld ?_ ?_
          rotate_left
          ·rintro w' ⟨s0, s1, s2, s3, s4, s5, s6, s7, s8, s9, s10, s11, s12, s13, s14, s15⟩
           go_simp
           with_reducible rfl
          rotate_left
          ·simp only [Act.put, sB, i64_w, i32_w]
           rfl
          refine pure_ (i := 10) (N := some 64) (v := ?_) (a' := ?_) #[true, true, true, true, true, true, true, true, true, true, true] rfl rfl (any_of HT_.out (by kernel_rfl)) (fun _ _ _ h => h) (Or.inl ⟨by rfl, ?_⟩) ?_ ?_
          rotate_left
          ·intro w'
           go_simp
           with_reducible rfl
          rotate_left
          ·simp only [Act.put, sB, i64_w, i32_w]
           rfl
          refine done_ (done_of HT_.out (by kernel_rfl)) ?_
          try go_wp2
          go_roundg k2
          case measure => have := HJ2.out; have := HK2.out; omega
          case rel => exact ⟨(wrap64 (x5_2 + 1)), (by first | rfl | (simp; done) | (simp [*]; done)), H', ⟨by have := HJ2.out; have := HK2.out; omega⟩, ⟨by (with_reducible repeat first | apply bn | apply bd | apply ba); exact BK233.out⟩, ⟨by (with_reducible repeat first | apply bn | apply bd | apply ba); exact BK234.out⟩, ⟨by repeat (first | (with_reducible first | exact HB.out | apply wa | apply wn | apply wd | refine ws ?_ GE233.out | refine ws ?_ GE234.out) | exact HB.out)⟩⟩
        ·rw [if_neg c28] at H
         exact absurd H (by simp)
       ·rw [if_neg c27] at H
        exact absurd H (by simp)
      ·rw [if_neg c26] at H
       have c26b0 : decide (x5_2 < (l0_2.length : Int)) = false := decide_eq_false c26
       clear c26
       have H' := asd H
       clear H
       have hnb36 := NB233_234.out
       have hnc36 := NB234_233.out
       have hcz37_0 : wr.cell? ⟨gb233, 0, none⟩ = some (.int .i64 a0_0) := (blk_cell BK233.out 0).trans rfl
       have hcz37_1 : wr.cell? ⟨gb233, 1, none⟩ = some (.int .i64 a0_1) := (blk_cell BK233.out 1).trans rfl
       have hcz37_2 : wr.cell? ⟨gb233, 2, none⟩ = some (.slice A0_2 l0_2.length c0_2) := (blk_cell BK233.out 2).trans rfl
       have hcz37_3 : wr.cell? ⟨gb233, 3, none⟩ = some (.slice A0_3 l0_3.length c0_3) := (blk_cell BK233.out 3).trans rfl
       have hcz37_4 : wr.cell? ⟨gb233, 4, none⟩ = some (.slice A0_4 l0_4.length c0_4) := (blk_cell BK233.out 4).trans rfl
       have hfz37_0 := blk_frozen BK233.out 0
       have hfz37_1 := blk_frozen BK233.out 1
       have hfz37_2 := blk_frozen BK233.out 2
       have hfz37_3 := blk_frozen BK233.out 3
       have hfz37_4 := blk_frozen BK233.out 4
       go_wp2
       go_loopg [6] k2 (fun kq v6 w' => ∃ (x6_3 : Int), v6 = .int .i64 x6_3 ∧ Aside0 (parcloseref03_Same.l1 kq x6_3 a0_0 a0_1 l0_2 l0_3 l0_4 a1_0 a1_1 l1_2 l1_3 l1_4 = some r) ∧ Aside0 (kq ≤ k2) ∧ Aside0 (w'.heap[gb233]? = some (.cells #[.int .i64 a0_0, .int .i64 a0_1, (.slice A0_2 l0_2.length c0_2), (.slice A0_3 l0_3.length c0_3), (.slice A0_4 l0_4.length c0_4)] 26 (0, 0))) ∧ Aside0 (w'.heap[gb234]? = some (.cells #[.int .i64 a1_0, .int .i64 a1_1, (.slice A1_2 l1_2.length c1_2), (.slice A1_3 l1_3.length c1_3), (.slice A1_4 l1_4.length c1_4)] 26 (0, 0))) ∧ Aside0 (Below w.heap.size w w'))
       case atStart => exact ⟨(0), (by first | rfl | (simp; done) | (simp [*]; done)), H', ⟨Nat.le_refl _⟩, ⟨by (with_reducible repeat first | apply bn | apply bd | apply ba); exact BK233.out⟩, ⟨by (with_reducible repeat first | apply bn | apply bd | apply ba); exact BK234.out⟩, ⟨by repeat (first | (with_reducible first | exact HB.out | apply wa | apply wn | apply wd | refine ws ?_ GE233.out | refine ws ?_ GE234.out) | exact HB.out)⟩⟩
       case round =>
        clear H'
        try clear c1
        try clear c2
        try clear p2
        try clear q2
        try clear hx2
        try clear c3
        try clear c6
        try clear c6b0
        try clear c6b1
        try clear p6
        try clear c7
        try clear c7b0
        try clear c7b1
        try clear c8
        try clear c8b0
        try clear c8b1
        try clear c8b2
        try clear c9
        try clear c9b0
        try clear c9b1
        try clear c9b2
        try clear c10
        try clear c13
        try clear c16
        try clear c19
        try clear c22
        try clear c23
        try clear p23
        try clear q23
        try clear hx23
        try clear c25
        try clear c26
        try clear c26b0
        try clear c27
        try clear c27b0
        try clear c28
        try clear c28b0
        try clear c29
        try clear c29b0
        try clear c30
        try clear c33
        try clear c36
        try clear hcz11_0
        try clear hcz11_1
        try clear hcz11_2
        try clear hcz11_3
        try clear hcz11_4
        try clear hcz12_0
        try clear hcz12_1
        try clear hcz12_2
        try clear hcz12_3
        try clear hcz12_4
        try clear hcz14_0
        try clear hcz14_1
        try clear hcz14_2
        try clear hcz14_3
        try clear hcz14_4
        try clear hcz15_0
        try clear hcz15_1
        try clear hcz15_2
        try clear hcz15_3
        try clear hcz15_4
        try clear hcz17_0
        try clear hcz17_1
        try clear hcz17_2
        try clear hcz17_3
        try clear hcz17_4
        try clear hcz18_0
        try clear hcz18_1
        try clear hcz18_2
        try clear hcz18_3
        try clear hcz18_4
        try clear hcz20_0
        try clear hcz20_1
        try clear hcz20_2
        try clear hcz20_3
        try clear hcz20_4
        try clear hcz21_0
        try clear hcz21_1
        try clear hcz21_2
        try clear hcz21_3
        try clear hcz21_4
        try clear hcz23_0
        try clear hcz23_1
        try clear hcz23_2
        try clear hcz23_3
        try clear hcz23_4
        try clear hcz24_0
        try clear hcz24_1
        try clear hcz24_2
        try clear hcz24_3
        try clear hcz24_4
        try clear hcz31_0
        try clear hcz31_1
        try clear hcz31_2
        try clear hcz31_3
        try clear hcz31_4
        try clear hcz34_0
        try clear hcz34_1
        try clear hcz34_2
        try clear hcz34_3
        try clear hcz34_4
        try clear hcz37_0
        try clear hcz37_1
        try clear hcz37_2
        try clear hcz37_3
        try clear hcz37_4
        try clear hfz11_0
        try clear hfz11_1
        try clear hfz11_2
        try clear hfz11_3
        try clear hfz11_4
        try clear hfz12_0
        try clear hfz12_1
        try clear hfz12_2
        try clear hfz12_3
        try clear hfz12_4
        try clear hfz14_0
        try clear hfz14_1
        try clear hfz14_2
        try clear hfz14_3
        try clear hfz14_4
        try clear hfz15_0
        try clear hfz15_1
        try clear hfz15_2
        try clear hfz15_3
        try clear hfz15_4
        try clear hfz17_0
        try clear hfz17_1
        try clear hfz17_2
        try clear hfz17_3
        try clear hfz17_4
        try clear hfz18_0
        try clear hfz18_1
        try clear hfz18_2
        try clear hfz18_3
        try clear hfz18_4
        try clear hfz20_0
        try clear hfz20_1
        try clear hfz20_2
        try clear hfz20_3
        try clear hfz20_4
        try clear hfz21_0
        try clear hfz21_1
        try clear hfz21_2
        try clear hfz21_3
        try clear hfz21_4
        try clear hfz23_0
        try clear hfz23_1
        try clear hfz23_2
        try clear hfz23_3
        try clear hfz23_4
        try clear hfz24_0
        try clear hfz24_1
        try clear hfz24_2
        try clear hfz24_3
        try clear hfz24_4
        try clear hfz31_0
        try clear hfz31_1
        try clear hfz31_2
        try clear hfz31_3
        try clear hfz31_4
        try clear hfz34_0
        try clear hfz34_1
        try clear hfz34_2
        try clear hfz34_3
        try clear hfz34_4
        try clear hfz37_0
        try clear hfz37_1
        try clear hfz37_2
        try clear hfz37_3
        try clear hfz37_4
        try clear hx235_0
        try clear hx235_1
        try clear hx235_2
        try clear hx236_0
        try clear hx236_1
        try clear hx236_2
        try clear p2
        try clear p235
        try clear p236
        try clear q235
        try clear q236
        obtain ⟨x6_3, rfl, HA, HK3, BK233, BK234, HB⟩ := hrel
        cases gk with
        | zero => exact absurd HA.out (by simp [parcloseref03_Same.l1])
        | succ k3 =>
         have H := HA.out
         clear HA
         simp only [parcloseref03_Same.l1] at H
         by_cases c38 : x6_3 < (l0_3.length : Int)
         ·rw [if_pos c38] at H
          have c38b0 : decide (x6_3 < (l0_3.length : Int)) = true := decide_eq_true c38
          clear c38
          by_cases c39 : 0 ≤ x6_3
          ·rw [if_pos c39] at H
           have c39b0 : decide (0 ≤ x6_3) = true := decide_eq_true c39
           clear c39
           by_cases c40 : x6_3 < (l1_3.length : Int)
           ·rw [if_pos c40] at H
            have c40b0 : decide (x6_3 < (l1_3.length : Int)) = true := decide_eq_true c40
            clear c40
            replace H := Option.bind_eq_some_iff.mp H
            obtain ⟨t239, A410, H⟩ := H
            replace H : (if t239 = true then (parcloseref03_Same.l1 k3 (wrap64 (x6_3 + 1)) a0_0 a0_1 l0_2 l0_3 l0_4 a1_0 a1_1 l1_2 l1_3 l1_4) else (some false)) = some r := H
            have A41 := asd A410
            clear A410
            by_cases c42 : t239 = true
            ·subst c42
             have H1 : (parcloseref03_Same.l1 k3 (wrap64 (x6_3 + 1)) a0_0 a0_1 l0_2 l0_3 l0_4 a1_0 a1_1 l1_2 l1_3 l1_4) = some r := by rw [if_pos rfl] at H; exact H
             clear H
             have H := H1
             clear H1
             have H' := asd H
             clear H
             have hnb43 := NB233_234.out
             have hnc43 := NB234_233.out
             have hcz44_0 : wr.cell? ⟨gb233, 0, none⟩ = some (.int .i64 a0_0) := (blk_cell BK233.out 0).trans rfl
             have hcz44_1 : wr.cell? ⟨gb233, 1, none⟩ = some (.int .i64 a0_1) := (blk_cell BK233.out 1).trans rfl
             have hcz44_2 : wr.cell? ⟨gb233, 2, none⟩ = some (.slice A0_2 l0_2.length c0_2) := (blk_cell BK233.out 2).trans rfl
             have hcz44_3 : wr.cell? ⟨gb233, 3, none⟩ = some (.slice A0_3 l0_3.length c0_3) := (blk_cell BK233.out 3).trans rfl
             have hcz44_4 : wr.cell? ⟨gb233, 4, none⟩ = some (.slice A0_4 l0_4.length c0_4) := (blk_cell BK233.out 4).trans rfl
             have hfz44_0 := blk_frozen BK233.out 0
             have hfz44_1 := blk_frozen BK233.out 1
             have hfz44_2 := blk_frozen BK233.out 2
             have hfz44_3 := blk_frozen BK233.out 3
             have hfz44_4 := blk_frozen BK233.out 4
             try go_wp2
             have n0_ := asd (blk_drew BK233.out)
             have n1_ := asd (blk_drew BK234.out)
             have n2_ := asd (below_drew1 HB.out)
             clear BK233
             clear BK234
             clear HB
             have BK233 := n0_
             have BK234 := n1_
             have HB := n2_
             clear n0_ n1_ n2_
             have p237 : 0 ≤ (x6_3 : Int) := of_decide_eq_true (by assumption)
             have q237 : x6_3 < (l0_3.length : Int) := of_decide_eq_true (by assumption)
             obtain ⟨ad237, A237_0, c237_0, A237_1, c237_1, A237_2, c237_2, e237, hx237_0, hx237_1, hx237_2, hx237_3, hx237_4, hx237_5, hl237_0, hi237_0, hl237_1, hi237_1, hl237_2, hi237_2⟩ := at_T61 HR0_3.out x6_3 p237 q237
             have hw237_5 := hx237_5
             have hw237_4 := hx237_4
             have hw237_3 := hx237_3
             have hw237_2 := hx237_2
             have hw237_1 := hx237_1
             have hw237_0 := hx237_0
             cases e237
             replace hx237_0 := (HB.out.cell (World.block_lt_of_cell? w _ hx237_0)).trans hx237_0
             replace hx237_1 := (HB.out.cell (World.block_lt_of_cell? w _ hx237_1)).trans hx237_1
             replace hx237_2 := (HB.out.cell (World.block_lt_of_cell? w _ hx237_2)).trans hx237_2
             replace hx237_3 := (HB.out.cell (World.block_lt_of_cell? w _ hx237_3)).trans hx237_3
             replace hx237_4 := (HB.out.cell (World.block_lt_of_cell? w _ hx237_4)).trans hx237_4
             replace hx237_5 := (HB.out.cell (World.block_lt_of_cell? w _ hx237_5)).trans hx237_5
             have HR237_0 := asd hi237_0
             have HC237_0 := asd hl237_0
             clear hi237_0 hl237_0
             have HR237_1 := asd hi237_1
             have HC237_1 := asd hl237_1
             clear hi237_1 hl237_1
             have HR237_2 := asd hi237_2
             have HC237_2 := asd hl237_2
             clear hi237_2 hl237_2
             replace p237 := eq_true p237
             replace q237 := eq_true q237
             have p238 : 0 ≤ (x6_3 : Int) := of_decide_eq_true (by assumption)
             have q238 : x6_3 < (l1_3.length : Int) := of_decide_eq_true (by assumption)
             obtain ⟨ad238, A238_0, c238_0, A238_1, c238_1, A238_2, c238_2, e238, hx238_0, hx238_1, hx238_2, hx238_3, hx238_4, hx238_5, hl238_0, hi238_0, hl238_1, hi238_1, hl238_2, hi238_2⟩ := at_T61 HR1_3.out x6_3 p238 q238
             have hw238_5 := hx238_5
             have hw238_4 := hx238_4
             have hw238_3 := hx238_3
             have hw238_2 := hx238_2
             have hw238_1 := hx238_1
             have hw238_0 := hx238_0
             cases e238
             replace hx238_0 := (HB.out.cell (World.block_lt_of_cell? w _ hx238_0)).trans hx238_0
             replace hx238_1 := (HB.out.cell (World.block_lt_of_cell? w _ hx238_1)).trans hx238_1
             replace hx238_2 := (HB.out.cell (World.block_lt_of_cell? w _ hx238_2)).trans hx238_2
             replace hx238_3 := (HB.out.cell (World.block_lt_of_cell? w _ hx238_3)).trans hx238_3
             replace hx238_4 := (HB.out.cell (World.block_lt_of_cell? w _ hx238_4)).trans hx238_4
             replace hx238_5 := (HB.out.cell (World.block_lt_of_cell? w _ hx238_5)).trans hx238_5
             have HR238_0 := asd hi238_0
             have HC238_0 := asd hl238_0
             clear hi238_0 hl238_0
             have HR238_1 := asd hi238_1
             have HC238_1 := asd hl238_1
             clear hi238_1 hl238_1
             have HR238_2 := asd hi238_2
             have HC238_2 := asd hl238_2
             clear hi238_2 hl238_2
             replace p238 := eq_true p238
             replace q238 := eq_true q238
             refine start_ (n := 12) (S := fun w' => w'.cell? ⟨gb233, 0, none⟩ = some (.int .i64 a0_0) ∧ w'.cell? ⟨gb233, 1, none⟩ = some (.int .i64 a0_1) ∧ w'.cell? ⟨gb233, 2, none⟩ = some (.slice A0_2 l0_2.length c0_2) ∧ w'.cell? ⟨gb233, 3, none⟩ = some (.slice (some ad237) l0_3.length c0_3) ∧ w'.cell? ⟨gb233, 4, none⟩ = some (.slice A0_4 l0_4.length c0_4) ∧ w'.cell? ⟨gb234, 0, none⟩ = some (.int .i64 a1_0) ∧ w'.cell? ⟨gb234, 1, none⟩ = some (.int .i64 a1_1) ∧ w'.cell? ⟨gb234, 2, none⟩ = some (.slice A1_2 l1_2.length c1_2) ∧ w'.cell? ⟨gb234, 3, none⟩ = some (.slice (some ad238) l1_3.length c1_3) ∧ w'.cell? ⟨gb234, 4, none⟩ = some (.slice A1_4 l1_4.length c1_4) ∧ w'.cell? (ad237.add ((x6_3).toNat * 6)) = some (.slice A237_0 ((rd_T61 l0_3 x6_3).f0).length c237_0) ∧ w'.cell? ⟨(ad237.add ((x6_3).toNat * 6)).block, (ad237.add ((x6_3).toNat * 6)).off + 1, none⟩ = some (.slice A237_1 ((rd_T61 l0_3 x6_3).f1).length c237_1) ∧ w'.cell? ⟨(ad237.add ((x6_3).toNat * 6)).block, (ad237.add ((x6_3).toNat * 6)).off + 2, none⟩ = some (.slice A237_2 ((rd_T61 l0_3 x6_3).f2).length c237_2) ∧ w'.cell? ⟨(ad237.add ((x6_3).toNat * 6)).block, (ad237.add ((x6_3).toNat * 6)).off + 3, none⟩ = some (.int .u8 ((rd_T61 l0_3 x6_3).f3.f0)) ∧ w'.cell? ⟨(ad237.add ((x6_3).toNat * 6)).block, (ad237.add ((x6_3).toNat * 6)).off + 4, none⟩ = some (.int .u8 ((rd_T61 l0_3 x6_3).f3.f1)) ∧ w'.cell? ⟨(ad237.add ((x6_3).toNat * 6)).block, (ad237.add ((x6_3).toNat * 6)).off + 5, none⟩ = some (.int .u8 ((rd_T61 l0_3 x6_3).f3.f2)) ∧ w'.cell? (ad238.add ((x6_3).toNat * 6)) = some (.slice A238_0 ((rd_T61 l1_3 x6_3).f0).length c238_0) ∧ w'.cell? ⟨(ad238.add ((x6_3).toNat * 6)).block, (ad238.add ((x6_3).toNat * 6)).off + 1, none⟩ = some (.slice A238_1 ((rd_T61 l1_3 x6_3).f1).length c238_1) ∧ w'.cell? ⟨(ad238.add ((x6_3).toNat * 6)).block, (ad238.add ((x6_3).toNat * 6)).off + 2, none⟩ = some (.slice A238_2 ((rd_T61 l1_3 x6_3).f2).length c238_2) ∧ w'.cell? ⟨(ad238.add ((x6_3).toNat * 6)).block, (ad238.add ((x6_3).toNat * 6)).off + 3, none⟩ = some (.int .u8 ((rd_T61 l1_3 x6_3).f3.f0)) ∧ w'.cell? ⟨(ad238.add ((x6_3).toNat * 6)).block, (ad238.add ((x6_3).toNat * 6)).off + 4, none⟩ = some (.int .u8 ((rd_T61 l1_3 x6_3).f3.f1)) ∧ w'.cell? ⟨(ad238.add ((x6_3).toNat * 6)).block, (ad238.add ((x6_3).toNat * 6)).off + 5, none⟩ = some (.int .u8 ((rd_T61 l1_3 x6_3).f3.f2))) (ds := []) #[false, false, false, false, false, false, false, false, false, false, false, false] (by kernel_rfl) rfl rfl ⟨(blk_cell BK233.out 0).trans rfl, (blk_cell BK233.out 1).trans rfl, (blk_cell BK233.out 2).trans rfl, (blk_cell BK233.out 3).trans rfl, (blk_cell BK233.out 4).trans rfl, (blk_cell BK234.out 0).trans rfl, (blk_cell BK234.out 1).trans rfl, (blk_cell BK234.out 2).trans rfl, (blk_cell BK234.out 3).trans rfl, (blk_cell BK234.out 4).trans rfl, ((HB.out.cell (World.block_lt_of_cell? w _ hw237_0)).trans hw237_0), ((HB.out.cell (World.block_lt_of_cell? w _ hw237_1)).trans hw237_1), ((HB.out.cell (World.block_lt_of_cell? w _ hw237_2)).trans hw237_2), ((HB.out.cell (World.block_lt_of_cell? w _ hw237_3)).trans hw237_3), ((HB.out.cell (World.block_lt_of_cell? w _ hw237_4)).trans hw237_4), ((HB.out.cell (World.block_lt_of_cell? w _ hw237_5)).trans hw237_5), ((HB.out.cell (World.block_lt_of_cell? w _ hw238_0)).trans hw238_0), ((HB.out.cell (World.block_lt_of_cell? w _ hw238_1)).trans hw238_1), ((HB.out.cell (World.block_lt_of_cell? w _ hw238_2)).trans hw238_2), ((HB.out.cell (World.block_lt_of_cell? w _ hw238_3)).trans hw238_3), ((HB.out.cell (World.block_lt_of_cell? w _ hw238_4)).trans hw238_4), ((HB.out.cell (World.block_lt_of_cell? w _ hw238_5)).trans hw238_5)⟩ (fun hHeld => ?_); refine with_tabW parcloseref03_Same.tab11 parcloseref03_Same.bits11 (fun HT_ HW_ => ?_)
             generalize wr.drew = w45 at BK233 BK234 HB HR237_0 HR237_1 HR237_2 HR238_0 HR238_1 HR238_2 hx237_0 hx237_1 hx237_2 hx237_3 hx237_4 hx237_5 hx238_0 hx238_1 hx238_2 hx238_3 hx238_4 hx238_5 hHeld ⊢
             refine pure_ (i := 0) (N := some 72) (v := ?_) (a' := ?_) #[true, false, false, false, false, false, false, false, false, false, false, false] rfl rfl (any_of HT_.out (by kernel_rfl)) (fun _ _ _ h => h) (Or.inl ⟨by rfl, ?_⟩) ?_ ?_
             rotate_left
             ·intro w'
              go_simp
              with_reducible rfl
             rotate_left
             ·simp only [Act.put, sB, i64_w, i32_w]
              rfl
             refine pure_ (i := 2) (N := some 74) (v := ?_) (a' := ?_) #[true, false, true, false, false, false, false, false, false, false, false, false] rfl rfl (any_of HT_.out (by kernel_rfl)) (fun _ _ _ h => h) (Or.inl ⟨by rfl, ?_⟩) ?_ ?_
             rotate_left
             ·intro w'
              go_simp
              with_reducible rfl
             rotate_left
             ·simp only [Act.put, sB, i64_w, i32_w]
              rfl
             refine pure_ (i := 5) (N := some 77) (v := ?_) (a' := ?_) #[true, false, true, false, false, true, false, false, false, false, false, false] rfl rfl (any_of HT_.out (by kernel_rfl)) (fun _ _ _ h => h) (Or.inl ⟨by rfl, ?_⟩) ?_ ?_
             rotate_left
             ·intro w'
              go_simp
              with_reducible rfl
             rotate_left
             ·simp only [Act.put, sB, i64_w, i32_w]
              rfl
             refine pure_ (i := 7) (N := some 79) (v := ?_) (a' := ?_) #[true, false, true, false, false, true, false, true, false, false, false, false] rfl rfl (any_of HT_.out (by kernel_rfl)) (fun _ _ _ h => h) (Or.inl ⟨by rfl, ?_⟩) ?_ ?_
             rotate_left
             ·intro w'
              go_simp
              with_reducible rfl
             rotate_left
             ·simp only [Act.put, sB, i64_w, i32_w]
              rfl
             refine take_ (i := 1) (N := some 73) (v := ?_) (a' := ?_) #[true, true, true, false, false, true, false, true, false, false, false, false] rfl rfl (take_ofW HT_.out HW_.out (by kernel_rfl)) (fun _ _ _ h => h) (Or.inl ⟨by rfl, ?_⟩) hHeld ?_ ?_
             rotate_left
             ·rintro w' ⟨s0, s1, s2, s3, s4, s5, s6, s7, s8, s9, s10, s11, s12, s13, s14, s15, s16, s17, s18, s19, s20, s21⟩
              go_simp
              with_reducible rfl
             rotate_left
             ·simp only [Act.put, sB, i64_w, i32_w]
              rfl
             refine pure_ (i := 3) (N := some 75) (v := ?_) (a' := ?_) #[true, true, true, true, false, true, false, true, false, false, false, false] rfl rfl (any_of HT_.out (by kernel_rfl)) (fun _ _ _ h => h) (Or.inl ⟨by rfl, ?_⟩) ?_ ?_
             rotate_left
             ·intro w'
              go_simp
              with_reducible rfl
             rotate_left
             ·simp only [Act.put, sB, i64_w, i32_w]
              rfl
             refine take_ (i := 4) (N := some 76) (v := ?_) (a' := ?_) #[true, true, true, true, true, true, false, true, false, false, false, false] rfl rfl (take_ofW HT_.out HW_.out (by kernel_rfl)) (fun _ _ _ h => h) (Or.inl ⟨by rfl, ?_⟩) hHeld ?_ ?_
             rotate_left
             ·rintro w' ⟨s0, s1, s2, s3, s4, s5, s6, s7, s8, s9, s10, s11, s12, s13, s14, s15, s16, s17, s18, s19, s20, s21⟩
              go_simp
              with_reducible rfl
             rotate_left
             ·simp only [Act.put, sB, i64_w, i32_w]
              rfl
             refine take_ (i := 6) (N := some 78) (v := ?_) (a' := ?_) #[true, true, true, true, true, true, true, true, false, false, false, false] rfl rfl (take_ofW HT_.out HW_.out (by kernel_rfl)) (fun _ _ _ h => h) (Or.inl ⟨by rfl, ?_⟩) hHeld ?_ ?_
             rotate_left
             ·rintro w' ⟨s0, s1, s2, s3, s4, s5, s6, s7, s8, s9, s10, s11, s12, s13, s14, s15, s16, s17, s18, s19, s20, s21⟩
              go_simp
              with_reducible rfl
             rotate_left
             ·simp only [Act.put, sB, i64_w, i32_w]
              rfl
             refine pure_ (i := 8) (N := some 80) (v := ?_) (a' := ?_) #[true, true, true, true, true, true, true, true, true, false, false, false] rfl rfl (any_of HT_.out (by kernel_rfl)) (fun _ _ _ h => h) (Or.inl ⟨by rfl, ?_⟩) ?_ ?_
             rotate_left
             ·intro w'
              go_simp
              with_reducible rfl
             rotate_left
             ·simp only [Act.put, sB, i64_w, i32_w]
              rfl
             refine take_ (i := 9) (N := some 81) (v := ?_) (a' := ?_) #[true, true, true, true, true, true, true, true, true, true, false, false] rfl rfl (take_ofW HT_.out HW_.out (by kernel_rfl)) (fun _ _ _ h => h) (Or.inl ⟨by rfl, ?_⟩) hHeld ?_ ?_
             rotate_left
             ·rintro w' ⟨s0, s1, s2, s3, s4, s5, s6, s7, s8, s9, s10, s11, s12, s13, s14, s15, s16, s17, s18, s19, s20, s21⟩
              go_simp
              with_reducible rfl
             rotate_left
             ·simp only [Act.put, sB, i64_w, i32_w]
              rfl
             refine one_ (i := 10) (N := some 82) #[true, true, true, true, true, true, true, true, true, true, true, false] rfl rfl (one_of HT_.out (by kernel_rfl)) (by decide) (fun K hK => ?_)
             refine goes_ Try.func55 (by kernel_rfl) rfl #[.agg #[.slice A237_0 ((rd_T61 l0_3 x6_3).f0).length c237_0, .slice A237_1 ((rd_T61 l0_3 x6_3).f1).length c237_1, .slice A237_2 ((rd_T61 l0_3 x6_3).f2).length c237_2, .int .u8 ((rd_T61 l0_3 x6_3).f3.f0), .int .u8 ((rd_T61 l0_3 x6_3).f3.f1), .int .u8 ((rd_T61 l0_3 x6_3).f3.f2)], .agg #[.slice A238_0 ((rd_T61 l1_3 x6_3).f0).length c238_0, .slice A238_1 ((rd_T61 l1_3 x6_3).f1).length c238_1, .slice A238_2 ((rd_T61 l1_3 x6_3).f2).length c238_2, .int .u8 ((rd_T61 l1_3 x6_3).f3.f0), .int .u8 ((rd_T61 l1_3 x6_3).f3.f1), .int .u8 ((rd_T61 l1_3 x6_3).f3.f2)]] (by rfl) rfl rfl (by (try simp only [List.map_toArray, List.map_cons, List.map_nil]); first | done | rfl | (simp only [List.length_drop, List.length_take]; rfl)) ?_
             with_reducible refine (parcloseref03_samePart.calls k3 _ _ ((rd_T61 l0_3 x6_3).f0) _ _ ((rd_T61 l0_3 x6_3).f1) _ _ ((rd_T61 l0_3 x6_3).f2) ((rd_T61 l0_3 x6_3).f3.f0) ((rd_T61 l0_3 x6_3).f3.f1) ((rd_T61 l0_3 x6_3).f3.f2) _ _ ((rd_T61 l1_3 x6_3).f0) _ _ ((rd_T61 l1_3 x6_3).f1) _ _ ((rd_T61 l1_3 x6_3).f2) ((rd_T61 l1_3 x6_3).f3.f0) ((rd_T61 l1_3 x6_3).f3.f1) ((rd_T61 l1_3 x6_3).f3.f2) true _ ?side1 ?side2 ?side3 ?side4 ?side5 ?side6 ?side7 ?side8 ?side9 ?side10 ?side11 ?side12 A41.out).mono ?_
             (case side1 => repeat (first | exact (Kd.C_below HR237_0.out HB.out) | (with_reducible refine Kd.C_alloc ?_ _) | (with_reducible refine Kd.C_drewN ?_ _) | (with_reducible refine Kd.C_drew ?_)))
             (case side2 => exact HC237_0.out)
             (case side3 => repeat (first | exact (Kd.C_below HR237_1.out HB.out) | (with_reducible refine Kd.C_alloc ?_ _) | (with_reducible refine Kd.C_drewN ?_ _) | (with_reducible refine Kd.C_drew ?_)))
             (case side4 => exact HC237_1.out)
             (case side5 => repeat (first | exact (Kd.C_below HR237_2.out HB.out) | (with_reducible refine Kd.C_alloc ?_ _) | (with_reducible refine Kd.C_drewN ?_ _) | (with_reducible refine Kd.C_drew ?_)))
             (case side6 => exact HC237_2.out)
             (case side7 => repeat (first | exact (Kd.C_below HR238_0.out HB.out) | (with_reducible refine Kd.C_alloc ?_ _) | (with_reducible refine Kd.C_drewN ?_ _) | (with_reducible refine Kd.C_drew ?_)))
             (case side8 => exact HC238_0.out)
             (case side9 => repeat (first | exact (Kd.C_below HR238_1.out HB.out) | (with_reducible refine Kd.C_alloc ?_ _) | (with_reducible refine Kd.C_drewN ?_ _) | (with_reducible refine Kd.C_drew ?_)))
             (case side10 => exact HC238_1.out)
             (case side11 => repeat (first | exact (Kd.C_below HR238_2.out HB.out) | (with_reducible refine Kd.C_alloc ?_ _) | (with_reducible refine Kd.C_drewN ?_ _) | (with_reducible refine Kd.C_drew ?_)))
             (case side12 => exact HC238_2.out)
             rintro e w46 ⟨rfl, hb⟩
             refine ⟨_, rfl, ?_⟩
             have n0_ := asd (blk_below (g := gb233) (o := .cells #[.int .i64 a0_0, .int .i64 a0_1, .slice A0_2 l0_2.length c0_2, .slice (some ad237) l0_3.length c0_3, .slice A0_4 l0_4.length c0_4] 26 (0, 0)) (by (with_reducible repeat first | apply bn | apply bd | apply ba); exact BK233.out) hb)
             have n1_ := asd (blk_below (g := gb234) (o := .cells #[.int .i64 a1_0, .int .i64 a1_1, .slice A1_2 l1_2.length c1_2, .slice (some ad238) l1_3.length c1_3, .slice A1_4 l1_4.length c1_4] 26 (0, 0)) (by (with_reducible repeat first | apply bn | apply bd | apply ba); exact BK234.out) hb)
             have n2_ := asd (below_step (by repeat (first | (with_reducible first | exact HB.out | apply wa | apply wn | apply wd | refine ws ?_ GE233.out | refine ws ?_ GE234.out) | exact HB.out)) hb)
             clear BK233
             clear BK234
             clear HB
             have BK233 := n0_
             have BK234 := n1_
             have HB := n2_
             clear n0_ n1_ n2_
             (try clear hb)
             (try clear hb2)
             (try clear hk)
             (try clear hi)
             refine hK.out _ _ ⟨(blk_cell BK233.out 0).trans rfl, (blk_cell BK233.out 1).trans rfl, (blk_cell BK233.out 2).trans rfl, (blk_cell BK233.out 3).trans rfl, (blk_cell BK233.out 4).trans rfl, (blk_cell BK234.out 0).trans rfl, (blk_cell BK234.out 1).trans rfl, (blk_cell BK234.out 2).trans rfl, (blk_cell BK234.out 3).trans rfl, (blk_cell BK234.out 4).trans rfl, ((HB.out.cell (World.block_lt_of_cell? w _ hw237_0)).trans hw237_0), ((HB.out.cell (World.block_lt_of_cell? w _ hw237_1)).trans hw237_1), ((HB.out.cell (World.block_lt_of_cell? w _ hw237_2)).trans hw237_2), ((HB.out.cell (World.block_lt_of_cell? w _ hw237_3)).trans hw237_3), ((HB.out.cell (World.block_lt_of_cell? w _ hw237_4)).trans hw237_4), ((HB.out.cell (World.block_lt_of_cell? w _ hw237_5)).trans hw237_5), ((HB.out.cell (World.block_lt_of_cell? w _ hw238_0)).trans hw238_0), ((HB.out.cell (World.block_lt_of_cell? w _ hw238_1)).trans hw238_1), ((HB.out.cell (World.block_lt_of_cell? w _ hw238_2)).trans hw238_2), ((HB.out.cell (World.block_lt_of_cell? w _ hw238_3)).trans hw238_3), ((HB.out.cell (World.block_lt_of_cell? w _ hw238_4)).trans hw238_4), ((HB.out.cell (World.block_lt_of_cell? w _ hw238_5)).trans hw238_5)⟩ (fun hHeld => ?_)
             clear hK K
             refine norm_ (a' := ?_) ?_ ?_
             rotate_left
             ·show Act.put _ (some 82) _ = _
              simp only [Act.put, sB, i64_w, i32_w]
              rfl
             refine pure_ (i := 11) (N := some 83) (v := ?_) (a' := ?_) #[true, true, true, true, true, true, true, true, true, true, true, true] rfl rfl (any_of HT_.out (by kernel_rfl)) (fun _ _ _ h => h) (Or.inl ⟨by rfl, ?_⟩) ?_ ?_
             rotate_left
             ·intro w'
              go_simp
              with_reducible rfl
             rotate_left
             ·simp only [Act.put, sB, i64_w, i32_w]
              rfl
             refine done_ (done_of HT_.out (by kernel_rfl)) ?_
             try go_wp2
             go_roundg k3
             case measure => have := HJ2.out; have := HK2.out; have := HK3.out; omega
             case rel => exact ⟨(wrap64 (x6_3 + 1)), (by first | rfl | (simp; done) | (simp [*]; done)), H', ⟨by have := HJ2.out; have := HK2.out; have := HK3.out; omega⟩, ⟨by (with_reducible repeat first | apply bn | apply bd | apply ba); exact BK233.out⟩, ⟨by (with_reducible repeat first | apply bn | apply bd | apply ba); exact BK234.out⟩, ⟨by repeat (first | (with_reducible first | exact HB.out | apply wa | apply wn | apply wd | refine ws ?_ GE233.out | refine ws ?_ GE234.out) | exact HB.out)⟩⟩
            ·replace c42 := Bool.eq_false_iff.mpr c42
             subst c42
             have H1 : (some false) = some r := by rw [if_neg (show ¬ (false = true) by decide)] at H; exact H
             clear H
             have H := H1
             clear H1
             obtain rfl := Option.some.inj H
             have hnb47 := NB233_234.out
             have hnc47 := NB234_233.out
             have hcz48_0 : wr.cell? ⟨gb233, 0, none⟩ = some (.int .i64 a0_0) := (blk_cell BK233.out 0).trans rfl
             have hcz48_1 : wr.cell? ⟨gb233, 1, none⟩ = some (.int .i64 a0_1) := (blk_cell BK233.out 1).trans rfl
             have hcz48_2 : wr.cell? ⟨gb233, 2, none⟩ = some (.slice A0_2 l0_2.length c0_2) := (blk_cell BK233.out 2).trans rfl
             have hcz48_3 : wr.cell? ⟨gb233, 3, none⟩ = some (.slice A0_3 l0_3.length c0_3) := (blk_cell BK233.out 3).trans rfl
             have hcz48_4 : wr.cell? ⟨gb233, 4, none⟩ = some (.slice A0_4 l0_4.length c0_4) := (blk_cell BK233.out 4).trans rfl
             have hfz48_0 := blk_frozen BK233.out 0
             have hfz48_1 := blk_frozen BK233.out 1
             have hfz48_2 := blk_frozen BK233.out 2
             have hfz48_3 := blk_frozen BK233.out 3
             have hfz48_4 := blk_frozen BK233.out 4
             try go_wp2
             have n0_ := asd (blk_drew BK233.out)
             have n1_ := asd (blk_drew BK234.out)
             have n2_ := asd (below_drew1 HB.out)
             clear BK233
             clear BK234
             clear HB
             have BK233 := n0_
             have BK234 := n1_
             have HB := n2_
             clear n0_ n1_ n2_
             have p237 : 0 ≤ (x6_3 : Int) := of_decide_eq_true (by assumption)
             have q237 : x6_3 < (l0_3.length : Int) := of_decide_eq_true (by assumption)
             obtain ⟨ad237, A237_0, c237_0, A237_1, c237_1, A237_2, c237_2, e237, hx237_0, hx237_1, hx237_2, hx237_3, hx237_4, hx237_5, hl237_0, hi237_0, hl237_1, hi237_1, hl237_2, hi237_2⟩ := at_T61 HR0_3.out x6_3 p237 q237
             have hw237_5 := hx237_5
             have hw237_4 := hx237_4
             have hw237_3 := hx237_3
             have hw237_2 := hx237_2
             have hw237_1 := hx237_1
             have hw237_0 := hx237_0
             cases e237
             replace hx237_0 := (HB.out.cell (World.block_lt_of_cell? w _ hx237_0)).trans hx237_0
             replace hx237_1 := (HB.out.cell (World.block_lt_of_cell? w _ hx237_1)).trans hx237_1
             replace hx237_2 := (HB.out.cell (World.block_lt_of_cell? w _ hx237_2)).trans hx237_2
             replace hx237_3 := (HB.out.cell (World.block_lt_of_cell? w _ hx237_3)).trans hx237_3
             replace hx237_4 := (HB.out.cell (World.block_lt_of_cell? w _ hx237_4)).trans hx237_4
             replace hx237_5 := (HB.out.cell (World.block_lt_of_cell? w _ hx237_5)).trans hx237_5
             have HR237_0 := asd hi237_0
             have HC237_0 := asd hl237_0
             clear hi237_0 hl237_0
             have HR237_1 := asd hi237_1
             have HC237_1 := asd hl237_1
             clear hi237_1 hl237_1
             have HR237_2 := asd hi237_2
             have HC237_2 := asd hl237_2
             clear hi237_2 hl237_2
             replace p237 := eq_true p237
             replace q237 := eq_true q237
             have p238 : 0 ≤ (x6_3 : Int) := of_decide_eq_true (by assumption)
             have q238 : x6_3 < (l1_3.length : Int) := of_decide_eq_true (by assumption)
             obtain ⟨ad238, A238_0, c238_0, A238_1, c238_1, A238_2, c238_2, e238, hx238_0, hx238_1, hx238_2, hx238_3, hx238_4, hx238_5, hl238_0, hi238_0, hl238_1, hi238_1, hl238_2, hi238_2⟩ := at_T61 HR1_3.out x6_3 p238 q238
             have hw238_5 := hx238_5
             have hw238_4 := hx238_4
             have hw238_3 := hx238_3
             have hw238_2 := hx238_2
             have hw238_1 := hx238_1
             have hw238_0 := hx238_0
             cases e238
             replace hx238_0 := (HB.out.cell (World.block_lt_of_cell? w _ hx238_0)).trans hx238_0
             replace hx238_1 := (HB.out.cell (World.block_lt_of_cell? w _ hx238_1)).trans hx238_1
             replace hx238_2 := (HB.out.cell (World.block_lt_of_cell? w _ hx238_2)).trans hx238_2
             replace hx238_3 := (HB.out.cell (World.block_lt_of_cell? w _ hx238_3)).trans hx238_3
             replace hx238_4 := (HB.out.cell (World.block_lt_of_cell? w _ hx238_4)).trans hx238_4
             replace hx238_5 := (HB.out.cell (World.block_lt_of_cell? w _ hx238_5)).trans hx238_5
             have HR238_0 := asd hi238_0
             have HC238_0 := asd hl238_0
             clear hi238_0 hl238_0
             have HR238_1 := asd hi238_1
             have HC238_1 := asd hl238_1
             clear hi238_1 hl238_1
             have HR238_2 := asd hi238_2
             have HC238_2 := asd hl238_2
             clear hi238_2 hl238_2
             replace p238 := eq_true p238
             replace q238 := eq_true q238
             refine start_ (n := 12) (S := fun w' => w'.cell? ⟨gb233, 0, none⟩ = some (.int .i64 a0_0) ∧ w'.cell? ⟨gb233, 1, none⟩ = some (.int .i64 a0_1) ∧ w'.cell? ⟨gb233, 2, none⟩ = some (.slice A0_2 l0_2.length c0_2) ∧ w'.cell? ⟨gb233, 3, none⟩ = some (.slice (some ad237) l0_3.length c0_3) ∧ w'.cell? ⟨gb233, 4, none⟩ = some (.slice A0_4 l0_4.length c0_4) ∧ w'.cell? ⟨gb234, 0, none⟩ = some (.int .i64 a1_0) ∧ w'.cell? ⟨gb234, 1, none⟩ = some (.int .i64 a1_1) ∧ w'.cell? ⟨gb234, 2, none⟩ = some (.slice A1_2 l1_2.length c1_2) ∧ w'.cell? ⟨gb234, 3, none⟩ = some (.slice (some ad238) l1_3.length c1_3) ∧ w'.cell? ⟨gb234, 4, none⟩ = some (.slice A1_4 l1_4.length c1_4) ∧ w'.cell? (ad237.add ((x6_3).toNat * 6)) = some (.slice A237_0 ((rd_T61 l0_3 x6_3).f0).length c237_0) ∧ w'.cell? ⟨(ad237.add ((x6_3).toNat * 6)).block, (ad237.add ((x6_3).toNat * 6)).off + 1, none⟩ = some (.slice A237_1 ((rd_T61 l0_3 x6_3).f1).length c237_1) ∧ w'.cell? ⟨(ad237.add ((x6_3).toNat * 6)).block, (ad237.add ((x6_3).toNat * 6)).off + 2, none⟩ = some (.slice A237_2 ((rd_T61 l0_3 x6_3).f2).length c237_2) ∧ w'.cell? ⟨(ad237.add ((x6_3).toNat * 6)).block, (ad237.add ((x6_3).toNat * 6)).off + 3, none⟩ = some (.int .u8 ((rd_T61 l0_3 x6_3).f3.f0)) ∧ w'.cell? ⟨(ad237.add ((x6_3).toNat * 6)).block, (ad237.add ((x6_3).toNat * 6)).off + 4, none⟩ = some (.int .u8 ((rd_T61 l0_3 x6_3).f3.f1)) ∧ w'.cell? ⟨(ad237.add ((x6_3).toNat * 6)).block, (ad237.add ((x6_3).toNat * 6)).off + 5, none⟩ = some (.int .u8 ((rd_T61 l0_3 x6_3).f3.f2)) ∧ w'.cell? (ad238.add ((x6_3).toNat * 6)) = some (.slice A238_0 ((rd_T61 l1_3 x6_3).f0).length c238_0) ∧ w'.cell? ⟨(ad238.add ((x6_3).toNat * 6)).block, (ad238.add ((x6_3).toNat * 6)).off + 1, none⟩ = some (.slice A238_1 ((rd_T61 l1_3 x6_3).f1).length c238_1) ∧ w'.cell? ⟨(ad238.add ((x6_3).toNat * 6)).block, (ad238.add ((x6_3).toNat * 6)).off + 2, none⟩ = some (.slice A238_2 ((rd_T61 l1_3 x6_3).f2).length c238_2) ∧ w'.cell? ⟨(ad238.add ((x6_3).toNat * 6)).block, (ad238.add ((x6_3).toNat * 6)).off + 3, none⟩ = some (.int .u8 ((rd_T61 l1_3 x6_3).f3.f0)) ∧ w'.cell? ⟨(ad238.add ((x6_3).toNat * 6)).block, (ad238.add ((x6_3).toNat * 6)).off + 4, none⟩ = some (.int .u8 ((rd_T61 l1_3 x6_3).f3.f1)) ∧ w'.cell? ⟨(ad238.add ((x6_3).toNat * 6)).block, (ad238.add ((x6_3).toNat * 6)).off + 5, none⟩ = some (.int .u8 ((rd_T61 l1_3 x6_3).f3.f2))) (ds := []) #[false, false, false, false, false, false, false, false, false, false, false, false] (by kernel_rfl) rfl rfl ⟨(blk_cell BK233.out 0).trans rfl, (blk_cell BK233.out 1).trans rfl, (blk_cell BK233.out 2).trans rfl, (blk_cell BK233.out 3).trans rfl, (blk_cell BK233.out 4).trans rfl, (blk_cell BK234.out 0).trans rfl, (blk_cell BK234.out 1).trans rfl, (blk_cell BK234.out 2).trans rfl, (blk_cell BK234.out 3).trans rfl, (blk_cell BK234.out 4).trans rfl, ((HB.out.cell (World.block_lt_of_cell? w _ hw237_0)).trans hw237_0), ((HB.out.cell (World.block_lt_of_cell? w _ hw237_1)).trans hw237_1), ((HB.out.cell (World.block_lt_of_cell? w _ hw237_2)).trans hw237_2), ((HB.out.cell (World.block_lt_of_cell? w _ hw237_3)).trans hw237_3), ((HB.out.cell (World.block_lt_of_cell? w _ hw237_4)).trans hw237_4), ((HB.out.cell (World.block_lt_of_cell? w _ hw237_5)).trans hw237_5), ((HB.out.cell (World.block_lt_of_cell? w _ hw238_0)).trans hw238_0), ((HB.out.cell (World.block_lt_of_cell? w _ hw238_1)).trans hw238_1), ((HB.out.cell (World.block_lt_of_cell? w _ hw238_2)).trans hw238_2), ((HB.out.cell (World.block_lt_of_cell? w _ hw238_3)).trans hw238_3), ((HB.out.cell (World.block_lt_of_cell? w _ hw238_4)).trans hw238_4), ((HB.out.cell (World.block_lt_of_cell? w _ hw238_5)).trans hw238_5)⟩ (fun hHeld => ?_); refine with_tabW parcloseref03_Same.tab11 parcloseref03_Same.bits11 (fun HT_ HW_ => ?_)
             generalize wr.drew = w49 at BK233 BK234 HB HR237_0 HR237_1 HR237_2 HR238_0 HR238_1 HR238_2 hx237_0 hx237_1 hx237_2 hx237_3 hx237_4 hx237_5 hx238_0 hx238_1 hx238_2 hx238_3 hx238_4 hx238_5 hHeld ⊢
             refine pure_ (i := 0) (N := some 72) (v := ?_) (a' := ?_) #[true, false, false, false, false, false, false, false, false, false, false, false] rfl rfl (any_of HT_.out (by kernel_rfl)) (fun _ _ _ h => h) (Or.inl ⟨by rfl, ?_⟩) ?_ ?_
             rotate_left
             ·intro w'
              go_simp
              with_reducible rfl
             rotate_left
             ·simp only [Act.put, sB, i64_w, i32_w]
              rfl
             refine pure_ (i := 2) (N := some 74) (v := ?_) (a' := ?_) #[true, false, true, false, false, false, false, false, false, false, false, false] rfl rfl (any_of HT_.out (by kernel_rfl)) (fun _ _ _ h => h) (Or.inl ⟨by rfl, ?_⟩) ?_ ?_
             rotate_left
             ·intro w'
              go_simp
              with_reducible rfl
             rotate_left
             ·simp only [Act.put, sB, i64_w, i32_w]
              rfl
             refine pure_ (i := 5) (N := some 77) (v := ?_) (a' := ?_) #[true, false, true, false, false, true, false, false, false, false, false, false] rfl rfl (any_of HT_.out (by kernel_rfl)) (fun _ _ _ h => h) (Or.inl ⟨by rfl, ?_⟩) ?_ ?_
             rotate_left
             ·intro w'
              go_simp
              with_reducible rfl
             rotate_left
             ·simp only [Act.put, sB, i64_w, i32_w]
              rfl
             refine pure_ (i := 7) (N := some 79) (v := ?_) (a' := ?_) #[true, false, true, false, false, true, false, true, false, false, false, false] rfl rfl (any_of HT_.out (by kernel_rfl)) (fun _ _ _ h => h) (Or.inl ⟨by rfl, ?_⟩) ?_ ?_
             rotate_left
             ·intro w'
              go_simp
              with_reducible rfl
             rotate_left
             ·simp only [Act.put, sB, i64_w, i32_w]
              rfl
             refine take_ (i := 1) (N := some 73) (v := ?_) (a' := ?_) #[true, true, true, false, false, true, false, true, false, false, false, false] rfl rfl (take_ofW HT_.out HW_.out (by kernel_rfl)) (fun _ _ _ h => h) (Or.inl ⟨by rfl, ?_⟩) hHeld ?_ ?_
             rotate_left
             ·rintro w' ⟨s0, s1, s2, s3, s4, s5, s6, s7, s8, s9, s10, s11, s12, s13, s14, s15, s16, s17, s18, s19, s20, s21⟩
              go_simp
              with_reducible rfl
             rotate_left
             ·simp only [Act.put, sB, i64_w, i32_w]
              rfl
             refine pure_ (i := 3) (N := some 75) (v := ?_) (a' := ?_) #[true, true, true, true, false, true, false, true, false, false, false, false] rfl rfl (any_of HT_.out (by kernel_rfl)) (fun _ _ _ h => h) (Or.inl ⟨by rfl, ?_⟩) ?_ ?_
             rotate_left
             ·intro w'
              go_simp
              with_reducible rfl
             rotate_left
             ·simp only [Act.put, sB, i64_w, i32_w]
              rfl
             refine take_ (i := 4) (N := some 76) (v := ?_) (a' := ?_) #[true, true, true, true, true, true, false, true, false, false, false, false] rfl rfl (take_ofW HT_.out HW_.out (by kernel_rfl)) (fun _ _ _ h => h) (Or.inl ⟨by rfl, ?_⟩) hHeld ?_ ?_
             rotate_left
             ·rintro w' ⟨s0, s1, s2, s3, s4, s5, s6, s7, s8, s9, s10, s11, s12, s13, s14, s15, s16, s17, s18, s19, s20, s21⟩
              go_simp
              with_reducible rfl
             rotate_left
             ·simp only [Act.put, sB, i64_w, i32_w]
              rfl
             refine take_ (i := 6) (N := some 78) (v := ?_) (a' := ?_) #[true, true, true, true, true, true, true, true, false, false, false, false] rfl rfl (take_ofW HT_.out HW_.out (by kernel_rfl)) (fun _ _ _ h => h) (Or.inl ⟨by rfl, ?_⟩) hHeld ?_ ?_
             rotate_left
             ·rintro w' ⟨s0, s1, s2, s3, s4, s5, s6, s7, s8, s9, s10, s11, s12, s13, s14, s15, s16, s17, s18, s19, s20, s21⟩
              go_simp
              with_reducible rfl
             rotate_left
             ·simp only [Act.put, sB, i64_w, i32_w]
              rfl
             refine pure_ (i := 8) (N := some 80) (v := ?_) (a' := ?_) #[true, true, true, true, true, true, true, true, true, false, false, false] rfl rfl (any_of HT_.out (by kernel_rfl)) (fun _ _ _ h => h) (Or.inl ⟨by rfl, ?_⟩) ?_ ?_
             rotate_left
             ·intro w'
              go_simp
              with_reducible rfl
             rotate_left
             ·simp only [Act.put, sB, i64_w, i32_w]
              rfl
             refine take_ (i := 9) (N := some 81) (v := ?_) (a' := ?_) #[true, true, true, true, true, true, true, true, true, true, false, false] rfl rfl (take_ofW HT_.out HW_.out (by kernel_rfl)) (fun _ _ _ h => h) (Or.inl ⟨by rfl, ?_⟩) hHeld ?_ ?_
             rotate_left
             ·rintro w' ⟨s0, s1, s2, s3, s4, s5, s6, s7, s8, s9, s10, s11, s12, s13, s14, s15, s16, s17, s18, s19, s20, s21⟩
              go_simp
              with_reducible rfl
             rotate_left
             ·simp only [Act.put, sB, i64_w, i32_w]
              rfl
             refine one_ (i := 10) (N := some 82) #[true, true, true, true, true, true, true, true, true, true, true, false] rfl rfl (one_of HT_.out (by kernel_rfl)) (by decide) (fun K hK => ?_)
             refine goes_ Try.func55 (by kernel_rfl) rfl #[.agg #[.slice A237_0 ((rd_T61 l0_3 x6_3).f0).length c237_0, .slice A237_1 ((rd_T61 l0_3 x6_3).f1).length c237_1, .slice A237_2 ((rd_T61 l0_3 x6_3).f2).length c237_2, .int .u8 ((rd_T61 l0_3 x6_3).f3.f0), .int .u8 ((rd_T61 l0_3 x6_3).f3.f1), .int .u8 ((rd_T61 l0_3 x6_3).f3.f2)], .agg #[.slice A238_0 ((rd_T61 l1_3 x6_3).f0).length c238_0, .slice A238_1 ((rd_T61 l1_3 x6_3).f1).length c238_1, .slice A238_2 ((rd_T61 l1_3 x6_3).f2).length c238_2, .int .u8 ((rd_T61 l1_3 x6_3).f3.f0), .int .u8 ((rd_T61 l1_3 x6_3).f3.f1), .int .u8 ((rd_T61 l1_3 x6_3).f3.f2)]] (by rfl) rfl rfl (by (try simp only [List.map_toArray, List.map_cons, List.map_nil]); first | done | rfl | (simp only [List.length_drop, List.length_take]; rfl)) ?_
             with_reducible refine (parcloseref03_samePart.calls k3 _ _ ((rd_T61 l0_3 x6_3).f0) _ _ ((rd_T61 l0_3 x6_3).f1) _ _ ((rd_T61 l0_3 x6_3).f2) ((rd_T61 l0_3 x6_3).f3.f0) ((rd_T61 l0_3 x6_3).f3.f1) ((rd_T61 l0_3 x6_3).f3.f2) _ _ ((rd_T61 l1_3 x6_3).f0) _ _ ((rd_T61 l1_3 x6_3).f1) _ _ ((rd_T61 l1_3 x6_3).f2) ((rd_T61 l1_3 x6_3).f3.f0) ((rd_T61 l1_3 x6_3).f3.f1) ((rd_T61 l1_3 x6_3).f3.f2) false _ ?side1 ?side2 ?side3 ?side4 ?side5 ?side6 ?side7 ?side8 ?side9 ?side10 ?side11 ?side12 A41.out).mono ?_
             (case side1 => repeat (first | exact (Kd.C_below HR237_0.out HB.out) | (with_reducible refine Kd.C_alloc ?_ _) | (with_reducible refine Kd.C_drewN ?_ _) | (with_reducible refine Kd.C_drew ?_)))
             (case side2 => exact HC237_0.out)
             (case side3 => repeat (first | exact (Kd.C_below HR237_1.out HB.out) | (with_reducible refine Kd.C_alloc ?_ _) | (with_reducible refine Kd.C_drewN ?_ _) | (with_reducible refine Kd.C_drew ?_)))
             (case side4 => exact HC237_1.out)
             (case side5 => repeat (first | exact (Kd.C_below HR237_2.out HB.out) | (with_reducible refine Kd.C_alloc ?_ _) | (with_reducible refine Kd.C_drewN ?_ _) | (with_reducible refine Kd.C_drew ?_)))
             (case side6 => exact HC237_2.out)
             (case side7 => repeat (first | exact (Kd.C_below HR238_0.out HB.out) | (with_reducible refine Kd.C_alloc ?_ _) | (with_reducible refine Kd.C_drewN ?_ _) | (with_reducible refine Kd.C_drew ?_)))
             (case side8 => exact HC238_0.out)
             (case side9 => repeat (first | exact (Kd.C_below HR238_1.out HB.out) | (with_reducible refine Kd.C_alloc ?_ _) | (with_reducible refine Kd.C_drewN ?_ _) | (with_reducible refine Kd.C_drew ?_)))
             (case side10 => exact HC238_1.out)
             (case side11 => repeat (first | exact (Kd.C_below HR238_2.out HB.out) | (with_reducible refine Kd.C_alloc ?_ _) | (with_reducible refine Kd.C_drewN ?_ _) | (with_reducible refine Kd.C_drew ?_)))
             (case side12 => exact HC238_2.out)
             rintro e w50 ⟨rfl, hb⟩
             refine ⟨_, rfl, ?_⟩
             have n0_ := asd (blk_below (g := gb233) (o := .cells #[.int .i64 a0_0, .int .i64 a0_1, .slice A0_2 l0_2.length c0_2, .slice (some ad237) l0_3.length c0_3, .slice A0_4 l0_4.length c0_4] 26 (0, 0)) (by (with_reducible repeat first | apply bn | apply bd | apply ba); exact BK233.out) hb)
             have n1_ := asd (blk_below (g := gb234) (o := .cells #[.int .i64 a1_0, .int .i64 a1_1, .slice A1_2 l1_2.length c1_2, .slice (some ad238) l1_3.length c1_3, .slice A1_4 l1_4.length c1_4] 26 (0, 0)) (by (with_reducible repeat first | apply bn | apply bd | apply ba); exact BK234.out) hb)
             have n2_ := asd (below_step (by repeat (first | (with_reducible first | exact HB.out | apply wa | apply wn | apply wd | refine ws ?_ GE233.out | refine ws ?_ GE234.out) | exact HB.out)) hb)
             clear BK233
             clear BK234
             clear HB
             have BK233 := n0_
             have BK234 := n1_
             have HB := n2_
             clear n0_ n1_ n2_
             (try clear hb)
             (try clear hb2)
             (try clear hk)
             (try clear hi)
             refine hK.out _ _ ⟨(blk_cell BK233.out 0).trans rfl, (blk_cell BK233.out 1).trans rfl, (blk_cell BK233.out 2).trans rfl, (blk_cell BK233.out 3).trans rfl, (blk_cell BK233.out 4).trans rfl, (blk_cell BK234.out 0).trans rfl, (blk_cell BK234.out 1).trans rfl, (blk_cell BK234.out 2).trans rfl, (blk_cell BK234.out 3).trans rfl, (blk_cell BK234.out 4).trans rfl, ((HB.out.cell (World.block_lt_of_cell? w _ hw237_0)).trans hw237_0), ((HB.out.cell (World.block_lt_of_cell? w _ hw237_1)).trans hw237_1), ((HB.out.cell (World.block_lt_of_cell? w _ hw237_2)).trans hw237_2), ((HB.out.cell (World.block_lt_of_cell? w _ hw237_3)).trans hw237_3), ((HB.out.cell (World.block_lt_of_cell? w _ hw237_4)).trans hw237_4), ((HB.out.cell (World.block_lt_of_cell? w _ hw237_5)).trans hw237_5), ((HB.out.cell (World.block_lt_of_cell? w _ hw238_0)).trans hw238_0), ((HB.out.cell (World.block_lt_of_cell? w _ hw238_1)).trans hw238_1), ((HB.out.cell (World.block_lt_of_cell? w _ hw238_2)).trans hw238_2), ((HB.out.cell (World.block_lt_of_cell? w _ hw238_3)).trans hw238_3), ((HB.out.cell (World.block_lt_of_cell? w _ hw238_4)).trans hw238_4), ((HB.out.cell (World.block_lt_of_cell? w _ hw238_5)).trans hw238_5)⟩ (fun hHeld => ?_)
             clear hK K
             refine norm_ (a' := ?_) ?_ ?_
             rotate_left
             ·show Act.put _ (some 82) _ = _
              simp only [Act.put, sB, i64_w, i32_w]
              rfl
             refine pure_ (i := 11) (N := some 83) (v := ?_) (a' := ?_) #[true, true, true, true, true, true, true, true, true, true, true, true] rfl rfl (any_of HT_.out (by kernel_rfl)) (fun _ _ _ h => h) (Or.inl ⟨by rfl, ?_⟩) ?_ ?_
             rotate_left
             ·intro w'
              go_simp
              with_reducible rfl
             rotate_left
             ·simp only [Act.put, sB, i64_w, i32_w]
              rfl
             refine done_ (done_of HT_.out (by kernel_rfl)) ?_
             try go_wp2
             go_ret
             exact ⟨by first | rfl | (simp [*] <;> rfl), by repeat (first | (with_reducible first | exact HB.out | apply wa | apply wn | apply wd | refine ws ?_ GE233.out | refine ws ?_ GE234.out) | exact HB.out)⟩
           ·rw [if_neg c40] at H
            exact absurd H (by simp)
          ·rw [if_neg c39] at H
           exact absurd H (by simp)
         ·rw [if_neg c38] at H
          have c38b0 : decide (x6_3 < (l0_3.length : Int)) = false := decide_eq_false c38
          clear c38
          have H' := asd H
          clear H
          have hnb51 := NB233_234.out
          have hnc51 := NB234_233.out
          have hcz52_0 : wr.cell? ⟨gb233, 0, none⟩ = some (.int .i64 a0_0) := (blk_cell BK233.out 0).trans rfl
          have hcz52_1 : wr.cell? ⟨gb233, 1, none⟩ = some (.int .i64 a0_1) := (blk_cell BK233.out 1).trans rfl
          have hcz52_2 : wr.cell? ⟨gb233, 2, none⟩ = some (.slice A0_2 l0_2.length c0_2) := (blk_cell BK233.out 2).trans rfl
          have hcz52_3 : wr.cell? ⟨gb233, 3, none⟩ = some (.slice A0_3 l0_3.length c0_3) := (blk_cell BK233.out 3).trans rfl
          have hcz52_4 : wr.cell? ⟨gb233, 4, none⟩ = some (.slice A0_4 l0_4.length c0_4) := (blk_cell BK233.out 4).trans rfl
          have hfz52_0 := blk_frozen BK233.out 0
          have hfz52_1 := blk_frozen BK233.out 1
          have hfz52_2 := blk_frozen BK233.out 2
          have hfz52_3 := blk_frozen BK233.out 3
          have hfz52_4 := blk_frozen BK233.out 4
          go_wp2
          go_loopg [7] k3 (fun kq v7 w' => ∃ (x7_4 : Int), v7 = .int .i64 x7_4 ∧ Aside0 (parcloseref03_Same.l2 kq x7_4 a0_0 a0_1 l0_2 l0_3 l0_4 a1_0 a1_1 l1_2 l1_3 l1_4 = some r) ∧ Aside0 (kq ≤ k3) ∧ Aside0 (w'.heap[gb233]? = some (.cells #[.int .i64 a0_0, .int .i64 a0_1, (.slice A0_2 l0_2.length c0_2), (.slice A0_3 l0_3.length c0_3), (.slice A0_4 l0_4.length c0_4)] 26 (0, 0))) ∧ Aside0 (w'.heap[gb234]? = some (.cells #[.int .i64 a1_0, .int .i64 a1_1, (.slice A1_2 l1_2.length c1_2), (.slice A1_3 l1_3.length c1_3), (.slice A1_4 l1_4.length c1_4)] 26 (0, 0))) ∧ Aside0 (Below w.heap.size w w'))
          case atStart => exact ⟨(0), (by first | rfl | (simp; done) | (simp [*]; done)), H', ⟨Nat.le_refl _⟩, ⟨by (with_reducible repeat first | apply bn | apply bd | apply ba); exact BK233.out⟩, ⟨by (with_reducible repeat first | apply bn | apply bd | apply ba); exact BK234.out⟩, ⟨by repeat (first | (with_reducible first | exact HB.out | apply wa | apply wn | apply wd | refine ws ?_ GE233.out | refine ws ?_ GE234.out) | exact HB.out)⟩⟩
          case round =>
           clear H'
           try clear c1
           try clear c2
           try clear p2
           try clear q2
           try clear hx2
           try clear c3
           try clear c4
           try clear c5
           try clear p6
           try clear c23
           try clear p23
           try clear q23
           try clear hx23
           try clear c38
           try clear c38b0
           try clear c39
           try clear c39b0
           try clear c40
           try clear c40b0
           try clear c42
           try clear c43
           try clear c47
           try clear c51
           try clear hcz18_0
           try clear hcz18_1
           try clear hcz18_2
           try clear hcz18_3
           try clear hcz18_4
           try clear hcz20_0
           try clear hcz20_1
           try clear hcz20_2
           try clear hcz20_3
           try clear hcz20_4
           try clear hcz21_0
           try clear hcz21_1
           try clear hcz21_2
           try clear hcz21_3
           try clear hcz21_4
           try clear hcz23_0
           try clear hcz23_1
           try clear hcz23_2
           try clear hcz23_3
           try clear hcz23_4
           try clear hcz24_0
           try clear hcz24_1
           try clear hcz24_2
           try clear hcz24_3
           try clear hcz24_4
           try clear hcz31_0
           try clear hcz31_1
           try clear hcz31_2
           try clear hcz31_3
           try clear hcz31_4
           try clear hcz34_0
           try clear hcz34_1
           try clear hcz34_2
           try clear hcz34_3
           try clear hcz34_4
           try clear hcz37_0
           try clear hcz37_1
           try clear hcz37_2
           try clear hcz37_3
           try clear hcz37_4
           try clear hcz44_0
           try clear hcz44_1
           try clear hcz44_2
           try clear hcz44_3
           try clear hcz44_4
           try clear hcz48_0
           try clear hcz48_1
           try clear hcz48_2
           try clear hcz48_3
           try clear hcz48_4
           try clear hcz52_0
           try clear hcz52_1
           try clear hcz52_2
           try clear hcz52_3
           try clear hcz52_4
           try clear hfz11_0
           try clear hfz11_1
           try clear hfz11_2
           try clear hfz11_3
           try clear hfz11_4
           try clear hfz12_0
           try clear hfz12_1
           try clear hfz12_2
           try clear hfz12_3
           try clear hfz12_4
           try clear hfz14_0
           try clear hfz14_1
           try clear hfz14_2
           try clear hfz14_3
           try clear hfz14_4
           try clear hfz15_0
           try clear hfz15_1
           try clear hfz15_2
           try clear hfz15_3
           try clear hfz15_4
           try clear hfz17_0
           try clear hfz17_1
           try clear hfz17_2
           try clear hfz17_3
           try clear hfz17_4
           try clear hfz18_0
           try clear hfz18_1
           try clear hfz18_2
           try clear hfz18_3
           try clear hfz18_4
           try clear hfz20_0
           try clear hfz20_1
           try clear hfz20_2
           try clear hfz20_3
           try clear hfz20_4
           try clear hfz21_0
           try clear hfz21_1
           try clear hfz21_2
           try clear hfz21_3
           try clear hfz21_4
           try clear hfz23_0
           try clear hfz23_1
           try clear hfz23_2
           try clear hfz23_3
           try clear hfz23_4
           try clear hfz24_0
           try clear hfz24_1
           try clear hfz24_2
           try clear hfz24_3
           try clear hfz24_4
           try clear hfz31_0
           try clear hfz31_1
           try clear hfz31_2
           try clear hfz31_3
           try clear hfz31_4
           try clear hfz34_0
           try clear hfz34_1
           try clear hfz34_2
           try clear hfz34_3
           try clear hfz34_4
           try clear hfz37_0
           try clear hfz37_1
           try clear hfz37_2
           try clear hfz37_3
           try clear hfz37_4
           try clear hfz44_0
           try clear hfz44_1
           try clear hfz44_2
           try clear hfz44_3
           try clear hfz44_4
           try clear hfz48_0
           try clear hfz48_1
           try clear hfz48_2
           try clear hfz48_3
           try clear hfz48_4
           try clear hfz52_0
           try clear hfz52_1
           try clear hfz52_2
           try clear hfz52_3
           try clear hfz52_4
           try clear hx235_0
           try clear hx235_1
           try clear hx235_2
           try clear hx236_0
           try clear hx236_1
           try clear hx236_2
           try clear hx237_0
           try clear hx237_1
           try clear hx237_2
           try clear hx237_3
           try clear hx237_4
           try clear hx237_5
           try clear hx238_0
           try clear hx238_1
           try clear hx238_2
           try clear hx238_3
           try clear hx238_4
           try clear hx238_5
           try clear p2
           try clear p235
           try clear p236
           try clear p237
           try clear p238
           try clear q235
           try clear q236
           try clear q237
           try clear q238
           obtain ⟨x7_4, rfl, HA, HK4, BK233, BK234, HB⟩ := hrel
           cases gk with
           | zero => exact absurd HA.out (by simp [parcloseref03_Same.l2])
           | succ k4 =>
            have H := HA.out
            clear HA
            simp only [parcloseref03_Same.l2] at H
            by_cases c53 : x7_4 < (l0_4.length : Int)
            ·rw [if_pos c53] at H
             have c53b0 : decide (x7_4 < (l0_4.length : Int)) = true := decide_eq_true c53
             clear c53
             by_cases c54 : 0 ≤ x7_4
             ·rw [if_pos c54] at H
              have c54b0 : decide (0 ≤ x7_4) = true := decide_eq_true c54
              clear c54
              by_cases c55 : x7_4 < (l1_4.length : Int)
              ·rw [if_pos c55] at H
               have c55b0 : decide (x7_4 < (l1_4.length : Int)) = true := decide_eq_true c55
               clear c55
               by_cases c56 : (!(((rd_T78 l0_4 x7_4).f0) == ((rd_T78 l1_4 x7_4).f0)) || (!(((rd_T78 l0_4 x7_4).f1) == ((rd_T78 l1_4 x7_4).f1)) || (!(((rd_T78 l0_4 x7_4).f2) == ((rd_T78 l1_4 x7_4).f2)) || (!(((rd_T78 l0_4 x7_4).f3) == ((rd_T78 l1_4 x7_4).f3)))))) = true
               ·rw [if_pos c56] at H
                have c56b0 : (!(((rd_T78 l0_4 x7_4).f0) == ((rd_T78 l1_4 x7_4).f0)) || (!(((rd_T78 l0_4 x7_4).f1) == ((rd_T78 l1_4 x7_4).f1)) || (!(((rd_T78 l0_4 x7_4).f2) == ((rd_T78 l1_4 x7_4).f2)) || (!(((rd_T78 l0_4 x7_4).f3) == ((rd_T78 l1_4 x7_4).f3)))))) = true := c56
                clear c56
                obtain rfl := Option.some.inj H
                have hnb57 := NB233_234.out
                have hnc57 := NB234_233.out
                have hcz58_0 : wr.cell? ⟨gb233, 0, none⟩ = some (.int .i64 a0_0) := (blk_cell BK233.out 0).trans rfl
                have hcz58_1 : wr.cell? ⟨gb233, 1, none⟩ = some (.int .i64 a0_1) := (blk_cell BK233.out 1).trans rfl
                have hcz58_2 : wr.cell? ⟨gb233, 2, none⟩ = some (.slice A0_2 l0_2.length c0_2) := (blk_cell BK233.out 2).trans rfl
                have hcz58_3 : wr.cell? ⟨gb233, 3, none⟩ = some (.slice A0_3 l0_3.length c0_3) := (blk_cell BK233.out 3).trans rfl
                have hcz58_4 : wr.cell? ⟨gb233, 4, none⟩ = some (.slice A0_4 l0_4.length c0_4) := (blk_cell BK233.out 4).trans rfl
                have hfz58_0 := blk_frozen BK233.out 0
                have hfz58_1 := blk_frozen BK233.out 1
                have hfz58_2 := blk_frozen BK233.out 2
                have hfz58_3 := blk_frozen BK233.out 3
                have hfz58_4 := blk_frozen BK233.out 4
                try go_wp2
                have n0_ := asd (blk_drew BK233.out)
                have n1_ := asd (blk_drew BK234.out)
                have n2_ := asd (below_drew1 HB.out)
                clear BK233
                clear BK234
                clear HB
                have BK233 := n0_
                have BK234 := n1_
                have HB := n2_
                clear n0_ n1_ n2_
                have p240 : 0 ≤ (x7_4 : Int) := of_decide_eq_true (by assumption)
                have q240 : x7_4 < (l0_4.length : Int) := of_decide_eq_true (by assumption)
                obtain ⟨ad240, e240, hx240_0, hx240_1, hx240_2, hx240_3⟩ := at_T78 HR0_4.out x7_4 p240 q240
                have hw240_3 := hx240_3
                have hw240_2 := hx240_2
                have hw240_1 := hx240_1
                have hw240_0 := hx240_0
                cases e240
                replace hx240_0 := (HB.out.cell (World.block_lt_of_cell? w _ hx240_0)).trans hx240_0
                replace hx240_1 := (HB.out.cell (World.block_lt_of_cell? w _ hx240_1)).trans hx240_1
                replace hx240_2 := (HB.out.cell (World.block_lt_of_cell? w _ hx240_2)).trans hx240_2
                replace hx240_3 := (HB.out.cell (World.block_lt_of_cell? w _ hx240_3)).trans hx240_3
                replace p240 := eq_true p240
                replace q240 := eq_true q240
                have p241 : 0 ≤ (x7_4 : Int) := of_decide_eq_true (by assumption)
                have q241 : x7_4 < (l1_4.length : Int) := of_decide_eq_true (by assumption)
                obtain ⟨ad241, e241, hx241_0, hx241_1, hx241_2, hx241_3⟩ := at_T78 HR1_4.out x7_4 p241 q241
                have hw241_3 := hx241_3
                have hw241_2 := hx241_2
                have hw241_1 := hx241_1
                have hw241_0 := hx241_0
                cases e241
                replace hx241_0 := (HB.out.cell (World.block_lt_of_cell? w _ hx241_0)).trans hx241_0
                replace hx241_1 := (HB.out.cell (World.block_lt_of_cell? w _ hx241_1)).trans hx241_1
                replace hx241_2 := (HB.out.cell (World.block_lt_of_cell? w _ hx241_2)).trans hx241_2
                replace hx241_3 := (HB.out.cell (World.block_lt_of_cell? w _ hx241_3)).trans hx241_3
                replace p241 := eq_true p241
                replace q241 := eq_true q241
                refine start_ (n := 11) (S := fun w' => w'.cell? ⟨gb233, 0, none⟩ = some (.int .i64 a0_0) ∧ w'.cell? ⟨gb233, 1, none⟩ = some (.int .i64 a0_1) ∧ w'.cell? ⟨gb233, 2, none⟩ = some (.slice A0_2 l0_2.length c0_2) ∧ w'.cell? ⟨gb233, 3, none⟩ = some (.slice A0_3 l0_3.length c0_3) ∧ w'.cell? ⟨gb233, 4, none⟩ = some (.slice (some ad240) l0_4.length c0_4) ∧ w'.cell? ⟨gb234, 0, none⟩ = some (.int .i64 a1_0) ∧ w'.cell? ⟨gb234, 1, none⟩ = some (.int .i64 a1_1) ∧ w'.cell? ⟨gb234, 2, none⟩ = some (.slice A1_2 l1_2.length c1_2) ∧ w'.cell? ⟨gb234, 3, none⟩ = some (.slice A1_3 l1_3.length c1_3) ∧ w'.cell? ⟨gb234, 4, none⟩ = some (.slice (some ad241) l1_4.length c1_4) ∧ w'.cell? (ad240.add ((x7_4).toNat * 4)) = some (.bool ((rd_T78 l0_4 x7_4).f0)) ∧ w'.cell? ⟨(ad240.add ((x7_4).toNat * 4)).block, (ad240.add ((x7_4).toNat * 4)).off + 1, none⟩ = some (.int .i64 ((rd_T78 l0_4 x7_4).f1)) ∧ w'.cell? ⟨(ad240.add ((x7_4).toNat * 4)).block, (ad240.add ((x7_4).toNat * 4)).off + 2, none⟩ = some (.int .i64 ((rd_T78 l0_4 x7_4).f2)) ∧ w'.cell? ⟨(ad240.add ((x7_4).toNat * 4)).block, (ad240.add ((x7_4).toNat * 4)).off + 3, none⟩ = some (.int .i64 ((rd_T78 l0_4 x7_4).f3)) ∧ w'.cell? (ad241.add ((x7_4).toNat * 4)) = some (.bool ((rd_T78 l1_4 x7_4).f0)) ∧ w'.cell? ⟨(ad241.add ((x7_4).toNat * 4)).block, (ad241.add ((x7_4).toNat * 4)).off + 1, none⟩ = some (.int .i64 ((rd_T78 l1_4 x7_4).f1)) ∧ w'.cell? ⟨(ad241.add ((x7_4).toNat * 4)).block, (ad241.add ((x7_4).toNat * 4)).off + 2, none⟩ = some (.int .i64 ((rd_T78 l1_4 x7_4).f2)) ∧ w'.cell? ⟨(ad241.add ((x7_4).toNat * 4)).block, (ad241.add ((x7_4).toNat * 4)).off + 3, none⟩ = some (.int .i64 ((rd_T78 l1_4 x7_4).f3))) (ds := []) #[false, false, false, false, false, false, false, false, false, false, false] (by kernel_rfl) rfl rfl ⟨(blk_cell BK233.out 0).trans rfl, (blk_cell BK233.out 1).trans rfl, (blk_cell BK233.out 2).trans rfl, (blk_cell BK233.out 3).trans rfl, (blk_cell BK233.out 4).trans rfl, (blk_cell BK234.out 0).trans rfl, (blk_cell BK234.out 1).trans rfl, (blk_cell BK234.out 2).trans rfl, (blk_cell BK234.out 3).trans rfl, (blk_cell BK234.out 4).trans rfl, ((HB.out.cell (World.block_lt_of_cell? w _ hw240_0)).trans hw240_0), ((HB.out.cell (World.block_lt_of_cell? w _ hw240_1)).trans hw240_1), ((HB.out.cell (World.block_lt_of_cell? w _ hw240_2)).trans hw240_2), ((HB.out.cell (World.block_lt_of_cell? w _ hw240_3)).trans hw240_3), ((HB.out.cell (World.block_lt_of_cell? w _ hw241_0)).trans hw241_0), ((HB.out.cell (World.block_lt_of_cell? w _ hw241_1)).trans hw241_1), ((HB.out.cell (World.block_lt_of_cell? w _ hw241_2)).trans hw241_2), ((HB.out.cell (World.block_lt_of_cell? w _ hw241_3)).trans hw241_3)⟩ (fun hHeld => ?_); refine with_tabW parcloseref03_Same.tab16 parcloseref03_Same.bits16 (fun HT_ HW_ => ?_)
                generalize wr.drew = w59 at BK233 BK234 HB hx240_0 hx240_1 hx240_2 hx240_3 hx241_0 hx241_1 hx241_2 hx241_3 hHeld ⊢
                refine pure_ (i := 0) (N := some 91) (v := ?_) (a' := ?_) #[true, false, false, false, false, false, false, false, false, false, false] rfl rfl (any_of HT_.out (by kernel_rfl)) (fun _ _ _ h => h) (Or.inl ⟨by rfl, ?_⟩) ?_ ?_
                rotate_left
                ·intro w'
                 go_simp
                 with_reducible rfl
                rotate_left
                ·simp only [Act.put, sB, i64_w, i32_w]
                 rfl
                refine pure_ (i := 2) (N := some 93) (v := ?_) (a' := ?_) #[true, false, true, false, false, false, false, false, false, false, false] rfl rfl (any_of HT_.out (by kernel_rfl)) (fun _ _ _ h => h) (Or.inl ⟨by rfl, ?_⟩) ?_ ?_
                rotate_left
                ·intro w'
                 go_simp
                 with_reducible rfl
                rotate_left
                ·simp only [Act.put, sB, i64_w, i32_w]
                 rfl
                refine pure_ (i := 5) (N := some 96) (v := ?_) (a' := ?_) #[true, false, true, false, false, true, false, false, false, false, false] rfl rfl (any_of HT_.out (by kernel_rfl)) (fun _ _ _ h => h) (Or.inl ⟨by rfl, ?_⟩) ?_ ?_
                rotate_left
                ·intro w'
                 go_simp
                 with_reducible rfl
                rotate_left
                ·simp only [Act.put, sB, i64_w, i32_w]
                 rfl
                refine pure_ (i := 7) (N := some 98) (v := ?_) (a' := ?_) #[true, false, true, false, false, true, false, true, false, false, false] rfl rfl (any_of HT_.out (by kernel_rfl)) (fun _ _ _ h => h) (Or.inl ⟨by rfl, ?_⟩) ?_ ?_
                rotate_left
                ·intro w'
                 go_simp
                 with_reducible rfl
                rotate_left
                ·simp only [Act.put, sB, i64_w, i32_w]
                 rfl
                refine take_ (i := 1) (N := some 92) (v := ?_) (a' := ?_) #[true, true, true, false, false, true, false, true, false, false, false] rfl rfl (take_ofW HT_.out HW_.out (by kernel_rfl)) (fun _ _ _ h => h) (Or.inl ⟨by rfl, ?_⟩) hHeld ?_ ?_
                rotate_left
                ·rintro w' ⟨s0, s1, s2, s3, s4, s5, s6, s7, s8, s9, s10, s11, s12, s13, s14, s15, s16, s17⟩
                 go_simp
                 with_reducible rfl
                rotate_left
                ·simp only [Act.put, sB, i64_w, i32_w]
                 rfl
                refine pure_ (i := 3) (N := some 94) (v := ?_) (a' := ?_) #[true, true, true, true, false, true, false, true, false, false, false] rfl rfl (any_of HT_.out (by kernel_rfl)) (fun _ _ _ h => h) (Or.inl ⟨by rfl, ?_⟩) ?_ ?_
                rotate_left
                ·intro w'
                 go_simp
                 with_reducible rfl
                rotate_left
                ·simp only [Act.put, sB, i64_w, i32_w]
                 rfl
                refine take_ (i := 4) (N := some 95) (v := ?_) (a' := ?_) #[true, true, true, true, true, true, false, true, false, false, false] rfl rfl (take_ofW HT_.out HW_.out (by kernel_rfl)) (fun _ _ _ h => h) (Or.inl ⟨by rfl, ?_⟩) hHeld ?_ ?_
                rotate_left
                ·rintro w' ⟨s0, s1, s2, s3, s4, s5, s6, s7, s8, s9, s10, s11, s12, s13, s14, s15, s16, s17⟩
                 go_simp
                 with_reducible rfl
                rotate_left
                ·simp only [Act.put, sB, i64_w, i32_w]
                 rfl
                refine take_ (i := 6) (N := some 97) (v := ?_) (a' := ?_) #[true, true, true, true, true, true, true, true, false, false, false] rfl rfl (take_ofW HT_.out HW_.out (by kernel_rfl)) (fun _ _ _ h => h) (Or.inl ⟨by rfl, ?_⟩) hHeld ?_ ?_
                rotate_left
                ·rintro w' ⟨s0, s1, s2, s3, s4, s5, s6, s7, s8, s9, s10, s11, s12, s13, s14, s15, s16, s17⟩
                 go_simp
                 with_reducible rfl
                rotate_left
                ·simp only [Act.put, sB, i64_w, i32_w]
                 rfl
                refine pure_ (i := 8) (N := some 99) (v := ?_) (a' := ?_) #[true, true, true, true, true, true, true, true, true, false, false] rfl rfl (any_of HT_.out (by kernel_rfl)) (fun _ _ _ h => h) (Or.inl ⟨by rfl, ?_⟩) ?_ ?_
                rotate_left
                ·intro w'
                 go_simp
                 with_reducible rfl
                rotate_left
                ·simp only [Act.put, sB, i64_w, i32_w]
                 rfl
                refine take_ (i := 9) (N := some 100) (v := ?_) (a' := ?_) #[true, true, true, true, true, true, true, true, true, true, false] rfl rfl (take_ofW HT_.out HW_.out (by kernel_rfl)) (fun _ _ _ h => h) (Or.inl ⟨by rfl, ?_⟩) hHeld ?_ ?_
                rotate_left
                ·rintro w' ⟨s0, s1, s2, s3, s4, s5, s6, s7, s8, s9, s10, s11, s12, s13, s14, s15, s16, s17⟩
                 go_simp
                 with_reducible rfl
                rotate_left
                ·simp only [Act.put, sB, i64_w, i32_w]
                 rfl
                refine pure_ (i := 10) (N := some 101) (v := ?_) (a' := ?_) #[true, true, true, true, true, true, true, true, true, true, true] rfl rfl (any_of HT_.out (by kernel_rfl)) (fun _ _ _ h => h) (Or.inl ⟨by rfl, ?_⟩) ?_ ?_
                rotate_left
                ·intro w'
                 go_simp
                 with_reducible rfl
                rotate_left
                ·simp only [Act.put, sB, i64_w, i32_w]
                 rfl
                refine done_ (done_of HT_.out (by kernel_rfl)) ?_
                try go_wp2
                go_ret
                exact ⟨by first | rfl | (simp [*] <;> rfl), by repeat (first | (with_reducible first | exact HB.out | apply wa | apply wn | apply wd | refine ws ?_ GE233.out | refine ws ?_ GE234.out) | exact HB.out)⟩
               ·rw [if_neg c56] at H
                have c56b0 : (!(((rd_T78 l0_4 x7_4).f0) == ((rd_T78 l1_4 x7_4).f0)) || (!(((rd_T78 l0_4 x7_4).f1) == ((rd_T78 l1_4 x7_4).f1)) || (!(((rd_T78 l0_4 x7_4).f2) == ((rd_T78 l1_4 x7_4).f2)) || (!(((rd_T78 l0_4 x7_4).f3) == ((rd_T78 l1_4 x7_4).f3)))))) = false := by simpa using c56
                clear c56
                have H' := asd H
                clear H
                have hnb60 := NB233_234.out
                have hnc60 := NB234_233.out
                have hcz61_0 : wr.cell? ⟨gb233, 0, none⟩ = some (.int .i64 a0_0) := (blk_cell BK233.out 0).trans rfl
                have hcz61_1 : wr.cell? ⟨gb233, 1, none⟩ = some (.int .i64 a0_1) := (blk_cell BK233.out 1).trans rfl
                have hcz61_2 : wr.cell? ⟨gb233, 2, none⟩ = some (.slice A0_2 l0_2.length c0_2) := (blk_cell BK233.out 2).trans rfl
                have hcz61_3 : wr.cell? ⟨gb233, 3, none⟩ = some (.slice A0_3 l0_3.length c0_3) := (blk_cell BK233.out 3).trans rfl
                have hcz61_4 : wr.cell? ⟨gb233, 4, none⟩ = some (.slice A0_4 l0_4.length c0_4) := (blk_cell BK233.out 4).trans rfl
                have hfz61_0 := blk_frozen BK233.out 0
                have hfz61_1 := blk_frozen BK233.out 1
                have hfz61_2 := blk_frozen BK233.out 2
                have hfz61_3 := blk_frozen BK233.out 3
                have hfz61_4 := blk_frozen BK233.out 4
                try go_wp2
                have n0_ := asd (blk_drew BK233.out)
                have n1_ := asd (blk_drew BK234.out)
                have n2_ := asd (below_drew1 HB.out)
                clear BK233
                clear BK234
                clear HB
                have BK233 := n0_
                have BK234 := n1_
                have HB := n2_
                clear n0_ n1_ n2_
                have p240 : 0 ≤ (x7_4 : Int) := of_decide_eq_true (by assumption)
                have q240 : x7_4 < (l0_4.length : Int) := of_decide_eq_true (by assumption)
                obtain ⟨ad240, e240, hx240_0, hx240_1, hx240_2, hx240_3⟩ := at_T78 HR0_4.out x7_4 p240 q240
                have hw240_3 := hx240_3
                have hw240_2 := hx240_2
                have hw240_1 := hx240_1
                have hw240_0 := hx240_0
                cases e240
                replace hx240_0 := (HB.out.cell (World.block_lt_of_cell? w _ hx240_0)).trans hx240_0
                replace hx240_1 := (HB.out.cell (World.block_lt_of_cell? w _ hx240_1)).trans hx240_1
                replace hx240_2 := (HB.out.cell (World.block_lt_of_cell? w _ hx240_2)).trans hx240_2
                replace hx240_3 := (HB.out.cell (World.block_lt_of_cell? w _ hx240_3)).trans hx240_3
                replace p240 := eq_true p240
                replace q240 := eq_true q240
                have p241 : 0 ≤ (x7_4 : Int) := of_decide_eq_true (by assumption)
                have q241 : x7_4 < (l1_4.length : Int) := of_decide_eq_true (by assumption)
                obtain ⟨ad241, e241, hx241_0, hx241_1, hx241_2, hx241_3⟩ := at_T78 HR1_4.out x7_4 p241 q241
                have hw241_3 := hx241_3
                have hw241_2 := hx241_2
                have hw241_1 := hx241_1
                have hw241_0 := hx241_0
                cases e241
                replace hx241_0 := (HB.out.cell (World.block_lt_of_cell? w _ hx241_0)).trans hx241_0
                replace hx241_1 := (HB.out.cell (World.block_lt_of_cell? w _ hx241_1)).trans hx241_1
                replace hx241_2 := (HB.out.cell (World.block_lt_of_cell? w _ hx241_2)).trans hx241_2
                replace hx241_3 := (HB.out.cell (World.block_lt_of_cell? w _ hx241_3)).trans hx241_3
                replace p241 := eq_true p241
                replace q241 := eq_true q241
                refine start_ (n := 11) (S := fun w' => w'.cell? ⟨gb233, 0, none⟩ = some (.int .i64 a0_0) ∧ w'.cell? ⟨gb233, 1, none⟩ = some (.int .i64 a0_1) ∧ w'.cell? ⟨gb233, 2, none⟩ = some (.slice A0_2 l0_2.length c0_2) ∧ w'.cell? ⟨gb233, 3, none⟩ = some (.slice A0_3 l0_3.length c0_3) ∧ w'.cell? ⟨gb233, 4, none⟩ = some (.slice (some ad240) l0_4.length c0_4) ∧ w'.cell? ⟨gb234, 0, none⟩ = some (.int .i64 a1_0) ∧ w'.cell? ⟨gb234, 1, none⟩ = some (.int .i64 a1_1) ∧ w'.cell? ⟨gb234, 2, none⟩ = some (.slice A1_2 l1_2.length c1_2) ∧ w'.cell? ⟨gb234, 3, none⟩ = some (.slice A1_3 l1_3.length c1_3) ∧ w'.cell? ⟨gb234, 4, none⟩ = some (.slice (some ad241) l1_4.length c1_4) ∧ w'.cell? (ad240.add ((x7_4).toNat * 4)) = some (.bool ((rd_T78 l0_4 x7_4).f0)) ∧ w'.cell? ⟨(ad240.add ((x7_4).toNat * 4)).block, (ad240.add ((x7_4).toNat * 4)).off + 1, none⟩ = some (.int .i64 ((rd_T78 l0_4 x7_4).f1)) ∧ w'.cell? ⟨(ad240.add ((x7_4).toNat * 4)).block, (ad240.add ((x7_4).toNat * 4)).off + 2, none⟩ = some (.int .i64 ((rd_T78 l0_4 x7_4).f2)) ∧ w'.cell? ⟨(ad240.add ((x7_4).toNat * 4)).block, (ad240.add ((x7_4).toNat * 4)).off + 3, none⟩ = some (.int .i64 ((rd_T78 l0_4 x7_4).f3)) ∧ w'.cell? (ad241.add ((x7_4).toNat * 4)) = some (.bool ((rd_T78 l1_4 x7_4).f0)) ∧ w'.cell? ⟨(ad241.add ((x7_4).toNat * 4)).block, (ad241.add ((x7_4).toNat * 4)).off + 1, none⟩ = some (.int .i64 ((rd_T78 l1_4 x7_4).f1)) ∧ w'.cell? ⟨(ad241.add ((x7_4).toNat * 4)).block, (ad241.add ((x7_4).toNat * 4)).off + 2, none⟩ = some (.int .i64 ((rd_T78 l1_4 x7_4).f2)) ∧ w'.cell? ⟨(ad241.add ((x7_4).toNat * 4)).block, (ad241.add ((x7_4).toNat * 4)).off + 3, none⟩ = some (.int .i64 ((rd_T78 l1_4 x7_4).f3))) (ds := []) #[false, false, false, false, false, false, false, false, false, false, false] (by kernel_rfl) rfl rfl ⟨(blk_cell BK233.out 0).trans rfl, (blk_cell BK233.out 1).trans rfl, (blk_cell BK233.out 2).trans rfl, (blk_cell BK233.out 3).trans rfl, (blk_cell BK233.out 4).trans rfl, (blk_cell BK234.out 0).trans rfl, (blk_cell BK234.out 1).trans rfl, (blk_cell BK234.out 2).trans rfl, (blk_cell BK234.out 3).trans rfl, (blk_cell BK234.out 4).trans rfl, ((HB.out.cell (World.block_lt_of_cell? w _ hw240_0)).trans hw240_0), ((HB.out.cell (World.block_lt_of_cell? w _ hw240_1)).trans hw240_1), ((HB.out.cell (World.block_lt_of_cell? w _ hw240_2)).trans hw240_2), ((HB.out.cell (World.block_lt_of_cell? w _ hw240_3)).trans hw240_3), ((HB.out.cell (World.block_lt_of_cell? w _ hw241_0)).trans hw241_0), ((HB.out.cell (World.block_lt_of_cell? w _ hw241_1)).trans hw241_1), ((HB.out.cell (World.block_lt_of_cell? w _ hw241_2)).trans hw241_2), ((HB.out.cell (World.block_lt_of_cell? w _ hw241_3)).trans hw241_3)⟩ (fun hHeld => ?_); refine with_tabW parcloseref03_Same.tab16 parcloseref03_Same.bits16 (fun HT_ HW_ => ?_)
                generalize wr.drew = w62 at BK233 BK234 HB hx240_0 hx240_1 hx240_2 hx240_3 hx241_0 hx241_1 hx241_2 hx241_3 hHeld ⊢
                refine pure_ (i := 0) (N := some 91) (v := ?_) (a' := ?_) #[true, false, false, false, false, false, false, false, false, false, false] rfl rfl (any_of HT_.out (by kernel_rfl)) (fun _ _ _ h => h) (Or.inl ⟨by rfl, ?_⟩) ?_ ?_
                rotate_left
                ·intro w'
                 go_simp
                 with_reducible rfl
                rotate_left
                ·simp only [Act.put, sB, i64_w, i32_w]
                 rfl
                refine pure_ (i := 2) (N := some 93) (v := ?_) (a' := ?_) #[true, false, true, false, false, false, false, false, false, false, false] rfl rfl (any_of HT_.out (by kernel_rfl)) (fun _ _ _ h => h) (Or.inl ⟨by rfl, ?_⟩) ?_ ?_
                rotate_left
                ·intro w'
                 go_simp
                 with_reducible rfl
                rotate_left
                ·simp only [Act.put, sB, i64_w, i32_w]
                 rfl
                refine pure_ (i := 5) (N := some 96) (v := ?_) (a' := ?_) #[true, false, true, false, false, true, false, false, false, false, false] rfl rfl (any_of HT_.out (by kernel_rfl)) (fun _ _ _ h => h) (Or.inl ⟨by rfl, ?_⟩) ?_ ?_
                rotate_left
                ·intro w'
                 go_simp
                 with_reducible rfl
                rotate_left
                ·simp only [Act.put, sB, i64_w, i32_w]
                 rfl
                refine pure_ (i := 7) (N := some 98) (v := ?_) (a' := ?_) #[true, false, true, false, false, true, false, true, false, false, false] rfl rfl (any_of HT_.out (by kernel_rfl)) (fun _ _ _ h => h) (Or.inl ⟨by rfl, ?_⟩) ?_ ?_
                rotate_left
                ·intro w'
                 go_simp
                 with_reducible rfl
                rotate_left
                ·simp only [Act.put, sB, i64_w, i32_w]
                 rfl
                refine take_ (i := 1) (N := some 92) (v := ?_) (a' := ?_) #[true, true, true, false, false, true, false, true, false, false, false] rfl rfl (take_ofW HT_.out HW_.out (by kernel_rfl)) (fun _ _ _ h => h) (Or.inl ⟨by rfl, ?_⟩) hHeld ?_ ?_
                rotate_left
                ·rintro w' ⟨s0, s1, s2, s3, s4, s5, s6, s7, s8, s9, s10, s11, s12, s13, s14, s15, s16, s17⟩
                 go_simp
                 with_reducible rfl
                rotate_left
                ·simp only [Act.put, sB, i64_w, i32_w]
                 rfl
                refine pure_ (i := 3) (N := some 94) (v := ?_) (a' := ?_) #[true, true, true, true, false, true, false, true, false, false, false] rfl rfl (any_of HT_.out (by kernel_rfl)) (fun _ _ _ h => h) (Or.inl ⟨by rfl, ?_⟩) ?_ ?_
                rotate_left
                ·intro w'
                 go_simp
                 with_reducible rfl
                rotate_left
                ·simp only [Act.put, sB, i64_w, i32_w]
                 rfl
                refine take_ (i := 4) (N := some 95) (v := ?_) (a' := ?_) #[true, true, true, true, true, true, false, true, false, false, false] rfl rfl (take_ofW HT_.out HW_.out (by kernel_rfl)) (fun _ _ _ h => h) (Or.inl ⟨by rfl, ?_⟩) hHeld ?_ ?_
                rotate_left
                ·rintro w' ⟨s0, s1, s2, s3, s4, s5, s6, s7, s8, s9, s10, s11, s12, s13, s14, s15, s16, s17⟩
                 go_simp
                 with_reducible rfl
                rotate_left
                ·simp only [Act.put, sB, i64_w, i32_w]
                 rfl
                refine take_ (i := 6) (N := some 97) (v := ?_) (a' := ?_) #[true, true, true, true, true, true, true, true, false, false, false] rfl rfl (take_ofW HT_.out HW_.out (by kernel_rfl)) (fun _ _ _ h => h) (Or.inl ⟨by rfl, ?_⟩) hHeld ?_ ?_
                rotate_left
                ·rintro w' ⟨s0, s1, s2, s3, s4, s5, s6, s7, s8, s9, s10, s11, s12, s13, s14, s15, s16, s17⟩
                 go_simp
                 with_reducible rfl
                rotate_left
                ·simp only [Act.put, sB, i64_w, i32_w]
                 rfl
                refine pure_ (i := 8) (N := some 99) (v := ?_) (a' := ?_) #[true, true, true, true, true, true, true, true, true, false, false] rfl rfl (any_of HT_.out (by kernel_rfl)) (fun _ _ _ h => h) (Or.inl ⟨by rfl, ?_⟩) ?_ ?_
                rotate_left
                ·intro w'
                 go_simp
                 with_reducible rfl
                rotate_left
                ·simp only [Act.put, sB, i64_w, i32_w]
                 rfl
                refine take_ (i := 9) (N := some 100) (v := ?_) (a' := ?_) #[true, true, true, true, true, true, true, true, true, true, false] rfl rfl (take_ofW HT_.out HW_.out (by kernel_rfl)) (fun _ _ _ h => h) (Or.inl ⟨by rfl, ?_⟩) hHeld ?_ ?_
                rotate_left
                ·rintro w' ⟨s0, s1, s2, s3, s4, s5, s6, s7, s8, s9, s10, s11, s12, s13, s14, s15, s16, s17⟩
                 go_simp
                 with_reducible rfl
                rotate_left
                ·simp only [Act.put, sB, i64_w, i32_w]
                 rfl
                refine pure_ (i := 10) (N := some 101) (v := ?_) (a' := ?_) #[true, true, true, true, true, true, true, true, true, true, true] rfl rfl (any_of HT_.out (by kernel_rfl)) (fun _ _ _ h => h) (Or.inl ⟨by rfl, ?_⟩) ?_ ?_
                rotate_left
                ·intro w'
                 go_simp
                 with_reducible rfl
                rotate_left
                ·simp only [Act.put, sB, i64_w, i32_w]
                 rfl
                refine done_ (done_of HT_.out (by kernel_rfl)) ?_
                try go_wp2
                go_roundg k4
                case measure => have := HJ2.out; have := HK2.out; have := HK3.out; have := HK4.out; omega
                case rel => exact ⟨(wrap64 (x7_4 + 1)), (by first | rfl | (simp; done) | (simp [*]; done)), H', ⟨by have := HJ2.out; have := HK2.out; have := HK3.out; have := HK4.out; omega⟩, ⟨by (with_reducible repeat first | apply bn | apply bd | apply ba); exact BK233.out⟩, ⟨by (with_reducible repeat first | apply bn | apply bd | apply ba); exact BK234.out⟩, ⟨by repeat (first | (with_reducible first | exact HB.out | apply wa | apply wn | apply wd | refine ws ?_ GE233.out | refine ws ?_ GE234.out) | exact HB.out)⟩⟩
              ·rw [if_neg c55] at H
               exact absurd H (by simp)
             ·rw [if_neg c54] at H
              exact absurd H (by simp)
            ·rw [if_neg c53] at H
             have c53b0 : decide (x7_4 < (l0_4.length : Int)) = false := decide_eq_false c53
             clear c53
             obtain rfl := Option.some.inj H
             have hnb63 := NB233_234.out
             have hnc63 := NB234_233.out
             have hcz64_0 : wr.cell? ⟨gb233, 0, none⟩ = some (.int .i64 a0_0) := (blk_cell BK233.out 0).trans rfl
             have hcz64_1 : wr.cell? ⟨gb233, 1, none⟩ = some (.int .i64 a0_1) := (blk_cell BK233.out 1).trans rfl
             have hcz64_2 : wr.cell? ⟨gb233, 2, none⟩ = some (.slice A0_2 l0_2.length c0_2) := (blk_cell BK233.out 2).trans rfl
             have hcz64_3 : wr.cell? ⟨gb233, 3, none⟩ = some (.slice A0_3 l0_3.length c0_3) := (blk_cell BK233.out 3).trans rfl
             have hcz64_4 : wr.cell? ⟨gb233, 4, none⟩ = some (.slice A0_4 l0_4.length c0_4) := (blk_cell BK233.out 4).trans rfl
             have hfz64_0 := blk_frozen BK233.out 0
             have hfz64_1 := blk_frozen BK233.out 1
             have hfz64_2 := blk_frozen BK233.out 2
             have hfz64_3 := blk_frozen BK233.out 3
             have hfz64_4 := blk_frozen BK233.out 4
             go_wp2
             go_ret
             exact ⟨by first | rfl | (simp [*] <;> rfl), by repeat (first | (with_reducible first | exact HB.out | apply wa | apply wn | apply wd | refine ws ?_ GE233.out | refine ws ?_ GE234.out) | exact HB.out)⟩
end Go.Proofs.Ytmjhnmdmopmfjaa.Fn
namespace Go.Proofs.Ytmjhnmdmopmfjaa.Fn
open Go.RowKit Go.Proofs.YtmjhnmdmopmfjaaW.PrintWords Go.Proofs.YtmjhnmdmopmfjaaW.PrintLast Go.Proofs.YtmjhnmdmopmfjaaW.PrintMore
set_option linter.unusedVariables false
set_option linter.unusedSimpArgs false
def EvIf (P : Prop) (g : Nat → Option Bool) (r : Bool) : Prop := (P → Ev g r) ∧ (¬ P → Ev g false)
theorem EvIf.iff {P Q : Prop} {g : Nat → Option Bool} {r : Bool} (h : EvIf P g r) (e : P ↔ Q) : EvIf Q g r := ⟨fun q => h.1 (e.2 q), fun q => h.2 (fun p => q (e.1 p))⟩
theorem EvIf.congr {P : Prop} {g f : Nat → Option Bool} {r : Bool} (e : ∀ k, g k = f k) (h : EvIf P f r) : EvIf P g r := ⟨fun p => Ev.congr e (h.1 p), fun p => Ev.congr e (h.2 p)⟩
theorem EvIf.and {P Q : Prop} {g f : Nat → Option Bool} (h : EvIf P g true) (h2 : P → EvIf Q f true) : EvIf (P ∧ Q) (fun k => (g k).bind fun t => if t = true then f k else some false) true := by
 refine ⟨fun p => Ev.bind (h.1 p.1) (Ev.congr (fun k => by rw [if_pos rfl]) ((h2 p.1).1 p.2)), fun p => ?_⟩
 by_cases hp : P
 ·exact Ev.bind (h.1 hp) (Ev.congr (fun k => by rw [if_pos rfl]) ((h2 hp).2 (fun q => p ⟨hp, q⟩)))
 ·exact Ev.bind (h.2 hp) (Ev.some_ (fun k => by simp))
theorem EvIf.dec {P : Prop} {b : Bool} (h : b = true ↔ P) : EvIf P (fun _ => some b) true := ⟨fun p => Ev.some_ (fun k => by rw [h.2 p]), fun p => Ev.some_ (fun k => by cases b <;> simp_all)⟩
theorem EvIf.ite {P Q : Prop} [Decidable P] {f : Nat → Option Bool} (h2 : P → EvIf Q f true) : EvIf (P ∧ Q) (fun k => if P then f k else some false) true := by
 by_cases hp : P
 ·exact EvIf.congr (fun k => if_pos hp) ((h2 hp).iff ⟨fun q => ⟨hp, q⟩, fun q => q.2⟩)
 ·exact ⟨fun p => absurd p.1 hp, fun _ => Ev.some_ (fun k => if_neg hp)⟩
theorem cmp_loop {α : Type} (g : Nat → Nat → Option Bool) (xs ys : List α) (hl : xs.length = ys.length) (r : Bool) (hend : Ev (fun k => g k xs.length) r)
  (hstep : ∀ i (h : i < xs.length) (h' : i < ys.length), (xs[i] = ys[i] → ∀ s, Ev (fun k => g k (i + 1)) s → Ev (fun k => g k i) s) ∧ (xs[i] ≠ ys[i] → Ev (fun k => g k i) false)) :
  ∀ d i, xs.length - i = d → i ≤ xs.length → EvIf (xs.drop i = ys.drop i) (fun k => g k i) r := by
 intro d
 induction d with
 | zero =>
  intro i hd hi
  obtain rfl : i = xs.length := by omega
  refine ⟨fun _ => hend, fun h => absurd ?_ h⟩
  rw [List.drop_length, hl, List.drop_length]
 | succ d ih =>
  intro i hd hi
  have hlt : i < xs.length := by omega
  have hlt' : i < ys.length := by omega
  obtain ⟨h1, h2⟩ := ih (i + 1) (by omega) (by omega)
  obtain ⟨s1, s2⟩ := hstep i hlt hlt'
  rw [List.drop_eq_getElem_cons hlt, List.drop_eq_getElem_cons hlt']
  refine ⟨fun h => ?_, fun h => ?_⟩
  ·injection h with ha hb
   exact s1 ha _ (h1 hb)
  ·by_cases ha : xs[i] = ys[i]
   ·exact s1 ha _ (h2 (fun hb => h (by rw [ha, hb])))
   ·exact s2 ha
theorem cmp_whole {α : Type} (g : Nat → Nat → Option Bool) (xs ys : List α) (hl : xs.length = ys.length) (r : Bool) (hend : Ev (fun k => g k xs.length) r)
  (hstep : ∀ i (h : i < xs.length) (h' : i < ys.length), (xs[i] = ys[i] → ∀ s, Ev (fun k => g k (i + 1)) s → Ev (fun k => g k i) s) ∧ (xs[i] ≠ ys[i] → Ev (fun k => g k i) false)) : EvIf (xs = ys) (fun k => g k 0) r := by
 have := cmp_loop g xs ys hl r hend hstep xs.length 0 (by omega) (by omega)
 simpa using this
noncomputable instance : DecidableEq S42 := fun a b => Classical.propDecidable (a = b)
theorem ne_S42 (x y : S42) : (!(x.f0 == y.f0) || (!(x.f1 == y.f1) || (!(x.f2 == y.f2)))) = true ↔ x ≠ y := by
 cases x; cases y
 simp only [ne_eq, S42.mk.injEq, Bool.or_eq_true, Bool.not_eq_true', beq_eq_false_iff_ne]
 exact ⟨fun h e => by simp_all, fun h => by
  apply Classical.byContradiction
  intro hn
  simp only [not_or, Classical.not_not] at hn
  exact h (by simp_all)⟩
noncomputable instance : DecidableEq S44 := fun a b => Classical.propDecidable (a = b)
theorem ne_S44 (x y : S44) : (!(x.f0 == y.f0) || (!(x.f1 == y.f1) || (!(x.f2 == y.f2) || (!(x.f3 == y.f3))))) = true ↔ x ≠ y := by
 cases x; cases y
 simp only [ne_eq, S44.mk.injEq, Bool.or_eq_true, Bool.not_eq_true', beq_eq_false_iff_ne]
 exact ⟨fun h e => by simp_all, fun h => by
  apply Classical.byContradiction
  intro hn
  simp only [not_or, Classical.not_not] at hn
  exact h (by simp_all)⟩
noncomputable instance : DecidableEq S51 := fun a b => Classical.propDecidable (a = b)
theorem ne_S51 (x y : S51) : (!(x.f0 == y.f0) || (!(x.f1 == y.f1) || (!(x.f2 == y.f2) || (!(x.f3 == y.f3) || (!(x.f4 == y.f4) || (!(x.f5 == y.f5))))))) = true ↔ x ≠ y := by
 cases x; cases y
 simp only [ne_eq, S51.mk.injEq, Bool.or_eq_true, Bool.not_eq_true', beq_eq_false_iff_ne]
 exact ⟨fun h e => by simp_all, fun h => by
  apply Classical.byContradiction
  intro hn
  simp only [not_or, Classical.not_not] at hn
  exact h (by simp_all)⟩
noncomputable instance : DecidableEq S53 := fun a b => Classical.propDecidable (a = b)
theorem ne_S53 (x y : S53) : (!(x.f0 == y.f0) || (!(x.f1 == y.f1) || (!(x.f2 == y.f2)))) = true ↔ x ≠ y := by
 cases x; cases y
 simp only [ne_eq, S53.mk.injEq, Bool.or_eq_true, Bool.not_eq_true', beq_eq_false_iff_ne]
 exact ⟨fun h e => by simp_all, fun h => by
  apply Classical.byContradiction
  intro hn
  simp only [not_or, Classical.not_not] at hn
  exact h (by simp_all)⟩
noncomputable instance : DecidableEq S56 := fun a b => Classical.propDecidable (a = b)
theorem ne_S56 (x y : S56) : (!(x.f0 == y.f0) || (!(x.f1 == y.f1) || (!(x.f2 == y.f2) || (!(x.f3 == y.f3) || (!(x.f4 == y.f4) || (!(x.f5 == y.f5))))))) = true ↔ x ≠ y := by
 cases x; cases y
 simp only [ne_eq, S56.mk.injEq, Bool.or_eq_true, Bool.not_eq_true', beq_eq_false_iff_ne]
 exact ⟨fun h e => by simp_all, fun h => by
  apply Classical.byContradiction
  intro hn
  simp only [not_or, Classical.not_not] at hn
  exact h (by simp_all)⟩
noncomputable instance : DecidableEq S57 := fun a b => Classical.propDecidable (a = b)
theorem ne_S57 (x y : S57) : (!(x.f0 == y.f0) || (!(x.f1 == y.f1) || (!(x.f2 == y.f2)))) = true ↔ x ≠ y := by
 cases x; cases y
 simp only [ne_eq, S57.mk.injEq, Bool.or_eq_true, Bool.not_eq_true', beq_eq_false_iff_ne]
 exact ⟨fun h e => by simp_all, fun h => by
  apply Classical.byContradiction
  intro hn
  simp only [not_or, Classical.not_not] at hn
  exact h (by simp_all)⟩
noncomputable instance : DecidableEq S77 := fun a b => Classical.propDecidable (a = b)
theorem ne_S77 (x y : S77) : (!(x.f0 == y.f0) || (!(x.f1 == y.f1) || (!(x.f2 == y.f2)))) = true ↔ x ≠ y := by
 cases x; cases y
 simp only [ne_eq, S77.mk.injEq, Bool.or_eq_true, Bool.not_eq_true', beq_eq_false_iff_ne]
 exact ⟨fun h e => by simp_all, fun h => by
  apply Classical.byContradiction
  intro hn
  simp only [not_or, Classical.not_not] at hn
  exact h (by simp_all)⟩
noncomputable instance : DecidableEq S78 := fun a b => Classical.propDecidable (a = b)
theorem ne_S78 (x y : S78) : (!(x.f0 == y.f0) || (!(x.f1 == y.f1) || (!(x.f2 == y.f2) || (!(x.f3 == y.f3))))) = true ↔ x ≠ y := by
 cases x; cases y
 simp only [ne_eq, S78.mk.injEq, Bool.or_eq_true, Bool.not_eq_true', beq_eq_false_iff_ne]
 exact ⟨fun h e => by simp_all, fun h => by
  apply Classical.byContradiction
  intro hn
  simp only [not_or, Classical.not_not] at hn
  exact h (by simp_all)⟩
theorem conf_Window_61_ev (xs ys : List S42) (hb : xs.length < 1000) : EvIf (xs = ys) (fun k => conf_Window_61.f k xs ys) true := by
 by_cases hl : xs.length = ys.length
 ·refine EvIf.congr (fun k => by unfold conf_Window_61.f; rw [if_pos (by omega)]; rfl) (cmp_whole (fun k i => conf_Window_61.l0 k xs ys (xs.length : Int) (i : Int)) xs ys hl true ?_ ?_)
  ·exact Ev.step (f := fun _ => some true) (fun k => by simp only [conf_Window_61.l0]; rw [if_neg (by omega)]) (Ev.now _)
  ·intro i h h'
   have st : ∀ k, conf_Window_61.l0 (k + 1) xs ys (xs.length : Int) (i : Int) = if xs[i] ≠ ys[i] then some false else conf_Window_61.l0 k xs ys (xs.length : Int) ((i + 1 : Nat) : Int) := by
    intro k
    simp only [conf_Window_61.l0]
    rw [if_pos (by omega), if_pos (by omega), if_pos (by omega), if_pos (by omega), show rd_T42 xs (i : Int) = xs[i] from getD_nat xs i _ h, show rd_T42 ys (i : Int) = ys[i] from getD_nat ys i _ h', wrap_nat (by omega)]
    by_cases e : xs[i] = ys[i]
    ·rw [if_neg (fun hh => (ne_S42 _ _).1 hh e), if_neg (fun hh => hh e)]
    ·rw [if_pos ((ne_S42 _ _).2 e), if_pos e]
   exact ⟨fun e s hs => Ev.step (fun k => by rw [st, if_neg (fun hh => hh e)]) hs, fun e => Ev.step (f := fun _ => some false) (fun k => by rw [st, if_pos e]) (Ev.now _)⟩
 ·exact ⟨fun e => absurd (congrArg List.length e) hl, fun _ => Ev.some_ (fun k => by unfold conf_Window_61.f; rw [if_neg (by omega)])⟩
theorem conf_Channel_64_ev (xs ys : List S44) (hb : xs.length < 1000) : EvIf (xs = ys) (fun k => conf_Channel_64.f k xs ys) true := by
 by_cases hl : xs.length = ys.length
 ·refine EvIf.congr (fun k => by unfold conf_Channel_64.f; rw [if_pos (by omega)]; rfl) (cmp_whole (fun k i => conf_Channel_64.l0 k xs ys (xs.length : Int) (i : Int)) xs ys hl true ?_ ?_)
  ·exact Ev.step (f := fun _ => some true) (fun k => by simp only [conf_Channel_64.l0]; rw [if_neg (by omega)]) (Ev.now _)
  ·intro i h h'
   have st : ∀ k, conf_Channel_64.l0 (k + 1) xs ys (xs.length : Int) (i : Int) = if xs[i] ≠ ys[i] then some false else conf_Channel_64.l0 k xs ys (xs.length : Int) ((i + 1 : Nat) : Int) := by
    intro k
    simp only [conf_Channel_64.l0]
    rw [if_pos (by omega), if_pos (by omega), if_pos (by omega), if_pos (by omega), show rd_T44 xs (i : Int) = xs[i] from getD_nat xs i _ h, show rd_T44 ys (i : Int) = ys[i] from getD_nat ys i _ h', wrap_nat (by omega)]
    by_cases e : xs[i] = ys[i]
    ·rw [if_neg (fun hh => (ne_S44 _ _).1 hh e), if_neg (fun hh => hh e)]
    ·rw [if_pos ((ne_S44 _ _).2 e), if_pos e]
   exact ⟨fun e s hs => Ev.step (fun k => by rw [st, if_neg (fun hh => hh e)]) hs, fun e => Ev.step (f := fun _ => some false) (fun k => by rw [st, if_pos e]) (Ev.now _)⟩
 ·exact ⟨fun e => absurd (congrArg List.length e) hl, fun _ => Ev.some_ (fun k => by unfold conf_Channel_64.f; rw [if_neg (by omega)])⟩
theorem conf_Task_106_ev (xs ys : List S51) (hb : xs.length < 1000) : EvIf (xs = ys) (fun k => conf_Task_106.f k xs ys) true := by
 by_cases hl : xs.length = ys.length
 ·refine EvIf.congr (fun k => by unfold conf_Task_106.f; rw [if_pos (by omega)]; rfl) (cmp_whole (fun k i => conf_Task_106.l0 k xs ys (xs.length : Int) (i : Int)) xs ys hl true ?_ ?_)
  ·exact Ev.step (f := fun _ => some true) (fun k => by simp only [conf_Task_106.l0]; rw [if_neg (by omega)]) (Ev.now _)
  ·intro i h h'
   have st : ∀ k, conf_Task_106.l0 (k + 1) xs ys (xs.length : Int) (i : Int) = if xs[i] ≠ ys[i] then some false else conf_Task_106.l0 k xs ys (xs.length : Int) ((i + 1 : Nat) : Int) := by
    intro k
    simp only [conf_Task_106.l0]
    rw [if_pos (by omega), if_pos (by omega), if_pos (by omega), if_pos (by omega), show rd_T51 xs (i : Int) = xs[i] from getD_nat xs i _ h, show rd_T51 ys (i : Int) = ys[i] from getD_nat ys i _ h', wrap_nat (by omega)]
    by_cases e : xs[i] = ys[i]
    ·rw [if_neg (fun hh => (ne_S51 _ _).1 hh e), if_neg (fun hh => hh e)]
    ·rw [if_pos ((ne_S51 _ _).2 e), if_pos e]
   exact ⟨fun e s hs => Ev.step (fun k => by rw [st, if_neg (fun hh => hh e)]) hs, fun e => Ev.step (f := fun _ => some false) (fun k => by rw [st, if_pos e]) (Ev.now _)⟩
 ·exact ⟨fun e => absurd (congrArg List.length e) hl, fun _ => Ev.some_ (fun k => by unfold conf_Task_106.f; rw [if_neg (by omega)])⟩
theorem conf_Server_107_ev (xs ys : List S53) (hb : xs.length < 1000) : EvIf (xs = ys) (fun k => conf_Server_107.f k xs ys) true := by
 by_cases hl : xs.length = ys.length
 ·refine EvIf.congr (fun k => by unfold conf_Server_107.f; rw [if_pos (by omega)]; rfl) (cmp_whole (fun k i => conf_Server_107.l0 k xs ys (xs.length : Int) (i : Int)) xs ys hl true ?_ ?_)
  ·exact Ev.step (f := fun _ => some true) (fun k => by simp only [conf_Server_107.l0]; rw [if_neg (by omega)]) (Ev.now _)
  ·intro i h h'
   have st : ∀ k, conf_Server_107.l0 (k + 1) xs ys (xs.length : Int) (i : Int) = if xs[i] ≠ ys[i] then some false else conf_Server_107.l0 k xs ys (xs.length : Int) ((i + 1 : Nat) : Int) := by
    intro k
    simp only [conf_Server_107.l0]
    rw [if_pos (by omega), if_pos (by omega), if_pos (by omega), if_pos (by omega), show rd_T53 xs (i : Int) = xs[i] from getD_nat xs i _ h, show rd_T53 ys (i : Int) = ys[i] from getD_nat ys i _ h', wrap_nat (by omega)]
    by_cases e : xs[i] = ys[i]
    ·rw [if_neg (fun hh => (ne_S53 _ _).1 hh e), if_neg (fun hh => hh e)]
    ·rw [if_pos ((ne_S53 _ _).2 e), if_pos e]
   exact ⟨fun e s hs => Ev.step (fun k => by rw [st, if_neg (fun hh => hh e)]) hs, fun e => Ev.step (f := fun _ => some false) (fun k => by rw [st, if_pos e]) (Ev.now _)⟩
 ·exact ⟨fun e => absurd (congrArg List.length e) hl, fun _ => Ev.some_ (fun k => by unfold conf_Server_107.f; rw [if_neg (by omega)])⟩
theorem slices_Equal_int_int_ev (xs ys : List Int) (hb : xs.length < 1000) : EvIf (xs = ys) (fun k => slices_Equal_int_int.f k xs ys) true := by
 by_cases hl : xs.length = ys.length
 ·refine EvIf.congr (fun k => by unfold slices_Equal_int_int.f; rw [if_pos (by omega)]; rfl) (cmp_whole (fun k i => slices_Equal_int_int.l0 k xs ys (xs.length : Int) (i : Int)) xs ys hl true ?_ ?_)
  ·exact Ev.step (f := fun _ => some true) (fun k => by simp only [slices_Equal_int_int.l0]; rw [if_neg (by omega)]) (Ev.now _)
  ·intro i h h'
   have st : ∀ k, slices_Equal_int_int.l0 (k + 1) xs ys (xs.length : Int) (i : Int) = if xs[i] = ys[i] then slices_Equal_int_int.l0 k xs ys (xs.length : Int) ((i + 1 : Nat) : Int) else some false := by
    intro k
    simp only [slices_Equal_int_int.l0]
    rw [if_pos (by omega), if_pos (by omega), if_pos (by omega), if_pos (by omega), show rd xs (i : Int) = xs[i] from getD_nat xs i _ h, show rd ys (i : Int) = ys[i] from getD_nat ys i _ h', wrap_nat (by omega)]
   exact ⟨fun e s hs => Ev.step (fun k => by rw [st, if_pos e]) hs, fun e => Ev.step (f := fun _ => some false) (fun k => by rw [st, if_neg e]) (Ev.now _)⟩
 ·exact ⟨fun e => absurd (congrArg List.length e) hl, fun _ => Ev.some_ (fun k => by unfold slices_Equal_int_int.f; rw [if_neg (by omega)])⟩
theorem eq_S49 (p q : S49) : p = q ↔ p.f0 = q.f0 ∧ p.f1 = q.f1 ∧ p.f2 = q.f2 ∧ p.f3 = q.f3 := by cases p; cases q; simp
theorem eq_S61 (p q : S61) : p = q ↔ p.f0 = q.f0 ∧ p.f1 = q.f1 ∧ p.f2 = q.f2 ∧ p.f3 = q.f3 := by cases p; cases q; simp
theorem eq_S47 (p q : S47) : (p.f0 == q.f0 && (p.f1 == q.f1 && (p.f2 == q.f2))) = true ↔ p = q := by cases p; cases q; simp
theorem same_ev (p q : S49) (hf : fewQ p) : EvIf (p = q) (fun k => conf_same.f k p.f0 p.f1 p.f2 p.f3.f0 p.f3.f1 p.f3.f2 q.f0 q.f1 q.f2 q.f3.f0 q.f3.f1 q.f3.f2) true := by
 refine EvIf.iff ?_ (eq_S49 p q).symm
 refine EvIf.congr (fun k => by unfold conf_same.f; rfl) ?_
 refine EvIf.and (conf_Task_106_ev _ _ (by have := hf.1; omega)) fun _ => ?_
 refine EvIf.and (conf_Server_107_ev _ _ (by have := hf.2.1; omega)) fun _ => ?_
 refine EvIf.and (slices_Equal_int_int_ev _ _ (by have := hf.2.2; omega)) fun _ => ?_
 exact EvIf.dec (eq_S47 _ _)
theorem conf_Part_62_ev (xs ys : List S49) (hb : xs.length < 1000) (hf : ∀ p ∈ xs, fewQ p) : EvIf (xs = ys) (fun k => conf_Part_62.f k xs ys) true := by
 by_cases hl : xs.length = ys.length
 ·refine EvIf.congr (fun k => by unfold conf_Part_62.f; rw [if_pos (by omega)]; rfl) (cmp_whole (fun k i => conf_Part_62.l0 k ys xs (xs.length : Int) (i : Int)) xs ys hl true ?_ ?_)
  ·exact Ev.step (f := fun _ => some true) (fun k => by simp only [conf_Part_62.l0]; rw [if_neg (by omega)]) (Ev.now _)
  ·intro i h h'
   have sm := same_ev xs[i] ys[i] (hf _ (List.getElem_mem h))
   refine ⟨fun e s hs => ?_, fun e => ?_⟩
   ·refine Ev.step (fun k => by simp only [conf_Part_62.l0]; rw [if_pos (by omega), if_pos (by omega), if_pos (by omega), if_pos (by omega), show rd_T49 xs (i : Int) = xs[i] from getD_nat xs i _ h, show rd_T49 ys (i : Int) = ys[i] from getD_nat ys i _ h', wrap_nat (by omega)]) ?_
    exact Ev.bind (sm.1 e) (Ev.congr (fun k => by rw [if_pos rfl]) hs)
   ·refine Ev.step (fun k => by simp only [conf_Part_62.l0]; rw [if_pos (by omega), if_pos (by omega), if_pos (by omega), if_pos (by omega), show rd_T49 xs (i : Int) = xs[i] from getD_nat xs i _ h, show rd_T49 ys (i : Int) = ys[i] from getD_nat ys i _ h', wrap_nat (by omega)]) ?_
    exact Ev.bind (sm.2 e) (Ev.some_ (fun k => by simp))
 ·exact ⟨fun e => absurd (congrArg List.length e) hl, fun _ => Ev.some_ (fun k => by unfold conf_Part_62.f; rw [if_neg (by omega)])⟩
theorem Same_ev (a b : Int) (l2 : List S42) (l3 : List S49) (l4 : List S44) (a' b' : Int) (l2' : List S42) (l3' : List S49) (l4' : List S44) (h2 : l2.length < 1000) (h3 : l3.length < 1000) (h4 : l4.length < 1000) (hf : ∀ p ∈ l3, fewQ p) :
  EvIf (a = a' ∧ b = b' ∧ l2 = l2' ∧ l3 = l3' ∧ l4 = l4') (fun k => conf_Same.f k a b l2 l3 l4 a' b' l2' l3' l4') true := by
 refine EvIf.congr (fun k => by unfold conf_Same.f; rfl) ?_
 refine EvIf.ite fun _ => EvIf.ite fun _ => ?_
 refine EvIf.and (conf_Window_61_ev _ _ h2) fun _ => ?_
 refine EvIf.and (conf_Part_62_ev _ _ h3 hf) fun _ => ?_
 exact EvIf.congr (fun k => by cases conf_Channel_64.f k l4 l4' <;> rfl) (conf_Channel_64_ev _ _ h4)
section
variable (t0 : List S56) (t1 : List S57) (t2 : List Int) (p q r : Int) (u0 : List S56) (u1 : List S57) (u2 : List Int) (p' q' r' : Int)
theorem sp_l2 (hb : t2.length < 1000) (hl : t2.length = u2.length) : EvIf (t2 = u2) (fun k => parcloseref03_samePart.l2 k ((0 : Nat) : Int) t0 t1 t2 p q r u0 u1 u2 p' q' r') true := by
 refine cmp_whole (fun k i => parcloseref03_samePart.l2 k (i : Int) t0 t1 t2 p q r u0 u1 u2 p' q' r') t2 u2 hl true ?_ ?_
 ·exact Ev.step (f := fun _ => some true) (fun k => by simp only [parcloseref03_samePart.l2]; rw [if_neg (by omega)]) (Ev.now _)
 ·intro i h h'
  have st : ∀ k, parcloseref03_samePart.l2 (k + 1) (i : Int) t0 t1 t2 p q r u0 u1 u2 p' q' r' = if t2[i] = u2[i] then parcloseref03_samePart.l2 k ((i + 1 : Nat) : Int) t0 t1 t2 p q r u0 u1 u2 p' q' r' else some false := by
   intro k
   simp only [parcloseref03_samePart.l2]
   rw [if_pos (by omega), if_pos (by omega), if_pos (by omega), show rd t2 (i : Int) = t2[i] from getD_nat t2 i _ h, show rd u2 (i : Int) = u2[i] from getD_nat u2 i _ h', wrap_nat (by omega)]
  exact ⟨fun e s hs => Ev.step (fun k => by rw [st, if_pos e]) hs, fun e => Ev.step (f := fun _ => some false) (fun k => by rw [st, if_neg e]) (Ev.now _)⟩
theorem sp_l1 (hb : t2.length < 1000) (hl : t2.length = u2.length) (hb_t1 : t1.length < 1000) (hl_t1 : t1.length = u1.length) : EvIf (t1 = u1 ∧ t2 = u2) (fun k => parcloseref03_samePart.l1 k ((0 : Nat) : Int) t0 t1 t2 p q r u0 u1 u2 p' q' r') true := by
 have hn := sp_l2 t0 t1 t2 p q r u0 u1 u2 p' q' r' hb hl
 have fin : ∀ s, Ev (fun k => parcloseref03_samePart.l2 k ((0 : Nat) : Int) t0 t1 t2 p q r u0 u1 u2 p' q' r') s → EvIf (t1 = u1) (fun k => parcloseref03_samePart.l1 k ((0 : Nat) : Int) t0 t1 t2 p q r u0 u1 u2 p' q' r') s := by
  intro s hs
  refine cmp_whole (fun k i => parcloseref03_samePart.l1 k (i : Int) t0 t1 t2 p q r u0 u1 u2 p' q' r') t1 u1 hl_t1 s ?_ ?_
  ·exact Ev.step (fun k => by simp only [parcloseref03_samePart.l1]; rw [if_neg (by omega)]; rfl) hs
  ·intro i h h'
   have st : ∀ k, parcloseref03_samePart.l1 (k + 1) (i : Int) t0 t1 t2 p q r u0 u1 u2 p' q' r' = if t1[i] ≠ u1[i] then some false else parcloseref03_samePart.l1 k ((i + 1 : Nat) : Int) t0 t1 t2 p q r u0 u1 u2 p' q' r' := by
    intro k
    simp only [parcloseref03_samePart.l1]
    rw [if_pos (by omega), if_pos (by omega), if_pos (by omega), show rd_T57 t1 (i : Int) = t1[i] from getD_nat t1 i _ h, show rd_T57 u1 (i : Int) = u1[i] from getD_nat u1 i _ h', wrap_nat (by omega)]
    by_cases e : t1[i] = u1[i]
    ·rw [if_neg (fun hh => (ne_S57 _ _).1 hh e), if_neg (fun hh => hh e)]
    ·rw [if_pos ((ne_S57 _ _).2 e), if_pos e]
   exact ⟨fun e s hs => Ev.step (fun k => by rw [st, if_neg (fun hh => hh e)]) hs, fun e => Ev.step (f := fun _ => some false) (fun k => by rw [st, if_pos e]) (Ev.now _)⟩
 by_cases hc : t2 = u2
 ·have h := fin true (hn.1 hc)
  exact h.iff ⟨fun e => ⟨e, hc⟩, fun e => e.1⟩
 ·have h := fin false (hn.2 hc)
  exact ⟨fun e => absurd e.2 hc, fun _ => by
   by_cases e : t1 = u1
   ·exact h.1 e
   ·exact h.2 e⟩
theorem sp_l0 (hb : t2.length < 1000) (hl : t2.length = u2.length) (hb_t1 : t1.length < 1000) (hl_t1 : t1.length = u1.length) (hb_t0 : t0.length < 1000) (hl_t0 : t0.length = u0.length) : EvIf (t0 = u0 ∧ t1 = u1 ∧ t2 = u2) (fun k => parcloseref03_samePart.l0 k ((0 : Nat) : Int) t0 t1 t2 p q r u0 u1 u2 p' q' r') true := by
 have hn := sp_l1 t0 t1 t2 p q r u0 u1 u2 p' q' r' hb hl hb_t1 hl_t1
 have fin : ∀ s, Ev (fun k => parcloseref03_samePart.l1 k ((0 : Nat) : Int) t0 t1 t2 p q r u0 u1 u2 p' q' r') s → EvIf (t0 = u0) (fun k => parcloseref03_samePart.l0 k ((0 : Nat) : Int) t0 t1 t2 p q r u0 u1 u2 p' q' r') s := by
  intro s hs
  refine cmp_whole (fun k i => parcloseref03_samePart.l0 k (i : Int) t0 t1 t2 p q r u0 u1 u2 p' q' r') t0 u0 hl_t0 s ?_ ?_
  ·exact Ev.step (fun k => by simp only [parcloseref03_samePart.l0]; rw [if_neg (by omega)]; rfl) hs
  ·intro i h h'
   have st : ∀ k, parcloseref03_samePart.l0 (k + 1) (i : Int) t0 t1 t2 p q r u0 u1 u2 p' q' r' = if t0[i] ≠ u0[i] then some false else parcloseref03_samePart.l0 k ((i + 1 : Nat) : Int) t0 t1 t2 p q r u0 u1 u2 p' q' r' := by
    intro k
    simp only [parcloseref03_samePart.l0]
    rw [if_pos (by omega), if_pos (by omega), if_pos (by omega), show rd_T56 t0 (i : Int) = t0[i] from getD_nat t0 i _ h, show rd_T56 u0 (i : Int) = u0[i] from getD_nat u0 i _ h', wrap_nat (by omega)]
    by_cases e : t0[i] = u0[i]
    ·rw [if_neg (fun hh => (ne_S56 _ _).1 hh e), if_neg (fun hh => hh e)]
    ·rw [if_pos ((ne_S56 _ _).2 e), if_pos e]
   exact ⟨fun e s hs => Ev.step (fun k => by rw [st, if_neg (fun hh => hh e)]) hs, fun e => Ev.step (f := fun _ => some false) (fun k => by rw [st, if_pos e]) (Ev.now _)⟩
 by_cases hc : t1 = u1 ∧ t2 = u2
 ·have h := fin true (hn.1 hc)
  exact h.iff ⟨fun e => ⟨e, hc⟩, fun e => e.1⟩
 ·have h := fin false (hn.2 hc)
  exact ⟨fun e => absurd e.2 hc, fun _ => by
   by_cases e : t0 = u0
   ·exact h.1 e
   ·exact h.2 e⟩
end
theorem samePart_ev (x y : S61) (hf : fewP x) : EvIf (x = y) (fun k => parcloseref03_samePart.f k x.f0 x.f1 x.f2 x.f3.f0 x.f3.f1 x.f3.f2 y.f0 y.f1 y.f2 y.f3.f0 y.f3.f1 y.f3.f2) true := by
 have no : x ≠ y → Ev (fun k => parcloseref03_samePart.j0 k true x.f0 x.f1 x.f2 x.f3.f0 x.f3.f1 x.f3.f2 y.f0 y.f1 y.f2 y.f3.f0 y.f3.f1 y.f3.f2) false := fun _ => Ev.step (f := fun _ => some false) (fun k => by simp only [parcloseref03_samePart.j0]; rw [if_pos trivial]) (Ev.now _)
 by_cases e0 : x.f0.length = y.f0.length
 case neg => exact ⟨fun e => absurd (by rw [e]) e0, fun e => Ev.congr (fun k => by unfold parcloseref03_samePart.f; rw [if_neg (by omega)]) (no e)⟩
 by_cases e1 : x.f1.length = y.f1.length
 case neg => exact ⟨fun e => absurd (by rw [e]) e1, fun e => Ev.congr (fun k => by unfold parcloseref03_samePart.f; rw [if_pos (by omega), if_neg (by omega)]) (no e)⟩
 by_cases e2 : x.f2.length = y.f2.length
 case neg => exact ⟨fun e => absurd (by rw [e]) e2, fun e => Ev.congr (fun k => by unfold parcloseref03_samePart.f; rw [if_pos (by omega), if_pos (by omega), if_neg (by omega)]) (no e)⟩
 refine EvIf.congr (fun k => by unfold parcloseref03_samePart.f; rw [if_pos (by omega), if_pos (by omega), if_pos (by omega)]) ?_
 by_cases e3 : x.f3 = y.f3
 ·have t : (!(x.f3.f0 == y.f3.f0) || (!(x.f3.f1 == y.f3.f1) || (!(x.f3.f2 == y.f3.f2)))) = false := by rw [e3]; simp
  have h := sp_l0 x.f0 x.f1 x.f2 x.f3.f0 x.f3.f1 x.f3.f2 y.f0 y.f1 y.f2 y.f3.f0 y.f3.f1 y.f3.f2 (by have := hf.2.2; omega) e2 (by have := hf.2.1; omega) e1 (by have := hf.1; omega) e0
  have h2 := h.iff (Q := x = y) (by rw [eq_S61]; exact ⟨fun e => ⟨e.1, e.2.1, e.2.2, e3⟩, fun e => ⟨e.1, e.2.1, e.2.2.1⟩⟩)
  rw [t]
  exact ⟨fun e => Ev.step (fun k => by simp only [parcloseref03_samePart.j0]; rw [if_neg (by decide)]; rfl) (h2.1 e), fun e => Ev.step (fun k => by simp only [parcloseref03_samePart.j0]; rw [if_neg (by decide)]; rfl) (h2.2 e)⟩
 ·have t : (!(x.f3.f0 == y.f3.f0) || (!(x.f3.f1 == y.f3.f1) || (!(x.f3.f2 == y.f3.f2)))) = true := by
   cases hb : (!(x.f3.f0 == y.f3.f0) || (!(x.f3.f1 == y.f3.f1) || (!(x.f3.f2 == y.f3.f2)))) with
   | true => rfl
   | false => exact absurd ((eq_S47 _ _).1 (by simp only [Bool.or_eq_false_iff, Bool.not_eq_false'] at hb; simp only [Bool.and_eq_true]; exact hb)) e3
  rw [t]
  exact ⟨fun e => absurd (by rw [e]) e3, no⟩
section
variable (a b : Int) (l2 : List S77) (l3 : List S61) (l4 : List S78) (a' b' : Int) (l2' : List S77) (l3' : List S61) (l4' : List S78)
theorem rs_l2 (hb : l4.length < 1000) (hl : l4.length = l4'.length) : EvIf (l4 = l4') (fun k => parcloseref03_Same.l2 k ((0 : Nat) : Int) a b l2 l3 l4 a' b' l2' l3' l4') true := by
 refine cmp_whole (fun k i => parcloseref03_Same.l2 k (i : Int) a b l2 l3 l4 a' b' l2' l3' l4') l4 l4' hl true ?_ ?_
 ·exact Ev.step (f := fun _ => some true) (fun k => by simp only [parcloseref03_Same.l2]; rw [if_neg (by omega)]) (Ev.now _)
 ·intro i h h'
  have st : ∀ k, parcloseref03_Same.l2 (k + 1) (i : Int) a b l2 l3 l4 a' b' l2' l3' l4' = if l4[i] ≠ l4'[i] then some false else parcloseref03_Same.l2 k ((i + 1 : Nat) : Int) a b l2 l3 l4 a' b' l2' l3' l4' := by
   intro k
   simp only [parcloseref03_Same.l2]
   rw [if_pos (by omega), if_pos (by omega), if_pos (by omega), show rd_T78 l4 (i : Int) = l4[i] from getD_nat l4 i _ h, show rd_T78 l4' (i : Int) = l4'[i] from getD_nat l4' i _ h', wrap_nat (by omega)]
   by_cases e : l4[i] = l4'[i]
   ·rw [if_neg (fun hh => (ne_S78 _ _).1 hh e), if_neg (fun hh => hh e)]
   ·rw [if_pos ((ne_S78 _ _).2 e), if_pos e]
  exact ⟨fun e s hs => Ev.step (fun k => by rw [st, if_neg (fun hh => hh e)]) hs, fun e => Ev.step (f := fun _ => some false) (fun k => by rw [st, if_pos e]) (Ev.now _)⟩
theorem rs_l1 (hb : l4.length < 1000) (hl : l4.length = l4'.length) (hb_l3 : l3.length < 1000) (hl_l3 : l3.length = l3'.length) (hf : ∀ p ∈ l3, fewP p) : EvIf (l3 = l3' ∧ l4 = l4') (fun k => parcloseref03_Same.l1 k ((0 : Nat) : Int) a b l2 l3 l4 a' b' l2' l3' l4') true := by
 have hn := rs_l2 a b l2 l3 l4 a' b' l2' l3' l4' hb hl
 have fin : ∀ s, Ev (fun k => parcloseref03_Same.l2 k ((0 : Nat) : Int) a b l2 l3 l4 a' b' l2' l3' l4') s → EvIf (l3 = l3') (fun k => parcloseref03_Same.l1 k ((0 : Nat) : Int) a b l2 l3 l4 a' b' l2' l3' l4') s := by
  intro s hs
  refine cmp_whole (fun k i => parcloseref03_Same.l1 k (i : Int) a b l2 l3 l4 a' b' l2' l3' l4') l3 l3' hl_l3 s ?_ ?_
  ·exact Ev.step (fun k => by simp only [parcloseref03_Same.l1]; rw [if_neg (by omega)]; rfl) hs
  ·intro i h h'
   have sm := samePart_ev l3[i] l3'[i] (hf _ (List.getElem_mem h))
   refine ⟨fun e s hs => ?_, fun e => ?_⟩
   ·refine Ev.step (fun k => by simp only [parcloseref03_Same.l1]; rw [if_pos (by omega), if_pos (by omega), if_pos (by omega), show rd_T61 l3 (i : Int) = l3[i] from getD_nat l3 i _ h, show rd_T61 l3' (i : Int) = l3'[i] from getD_nat l3' i _ h', wrap_nat (by omega)]) ?_
    exact Ev.bind (sm.1 e) (Ev.congr (fun k => by rw [if_pos rfl]) hs)
   ·refine Ev.step (fun k => by simp only [parcloseref03_Same.l1]; rw [if_pos (by omega), if_pos (by omega), if_pos (by omega), show rd_T61 l3 (i : Int) = l3[i] from getD_nat l3 i _ h, show rd_T61 l3' (i : Int) = l3'[i] from getD_nat l3' i _ h', wrap_nat (by omega)]) ?_
    exact Ev.bind (sm.2 e) (Ev.some_ (fun k => by simp))
 by_cases hc : l4 = l4'
 ·have h := fin true (hn.1 hc)
  exact h.iff ⟨fun e => ⟨e, hc⟩, fun e => e.1⟩
 ·have h := fin false (hn.2 hc)
  exact ⟨fun e => absurd e.2 hc, fun _ => by
   by_cases e : l3 = l3'
   ·exact h.1 e
   ·exact h.2 e⟩
theorem rs_l0 (hb : l4.length < 1000) (hl : l4.length = l4'.length) (hb_l3 : l3.length < 1000) (hl_l3 : l3.length = l3'.length) (hf : ∀ p ∈ l3, fewP p) (hb_l2 : l2.length < 1000) (hl_l2 : l2.length = l2'.length) : EvIf (l2 = l2' ∧ l3 = l3' ∧ l4 = l4') (fun k => parcloseref03_Same.l0 k ((0 : Nat) : Int) a b l2 l3 l4 a' b' l2' l3' l4') true := by
 have hn := rs_l1 a b l2 l3 l4 a' b' l2' l3' l4' hb hl hb_l3 hl_l3 hf
 have fin : ∀ s, Ev (fun k => parcloseref03_Same.l1 k ((0 : Nat) : Int) a b l2 l3 l4 a' b' l2' l3' l4') s → EvIf (l2 = l2') (fun k => parcloseref03_Same.l0 k ((0 : Nat) : Int) a b l2 l3 l4 a' b' l2' l3' l4') s := by
  intro s hs
  refine cmp_whole (fun k i => parcloseref03_Same.l0 k (i : Int) a b l2 l3 l4 a' b' l2' l3' l4') l2 l2' hl_l2 s ?_ ?_
  ·exact Ev.step (fun k => by simp only [parcloseref03_Same.l0]; rw [if_neg (by omega)]; rfl) hs
  ·intro i h h'
   have st : ∀ k, parcloseref03_Same.l0 (k + 1) (i : Int) a b l2 l3 l4 a' b' l2' l3' l4' = if l2[i] ≠ l2'[i] then some false else parcloseref03_Same.l0 k ((i + 1 : Nat) : Int) a b l2 l3 l4 a' b' l2' l3' l4' := by
    intro k
    simp only [parcloseref03_Same.l0]
    rw [if_pos (by omega), if_pos (by omega), if_pos (by omega), show rd_T77 l2 (i : Int) = l2[i] from getD_nat l2 i _ h, show rd_T77 l2' (i : Int) = l2'[i] from getD_nat l2' i _ h', wrap_nat (by omega)]
    by_cases e : l2[i] = l2'[i]
    ·rw [if_neg (fun hh => (ne_S77 _ _).1 hh e), if_neg (fun hh => hh e)]
    ·rw [if_pos ((ne_S77 _ _).2 e), if_pos e]
   exact ⟨fun e s hs => Ev.step (fun k => by rw [st, if_neg (fun hh => hh e)]) hs, fun e => Ev.step (f := fun _ => some false) (fun k => by rw [st, if_pos e]) (Ev.now _)⟩
 by_cases hc : l3 = l3' ∧ l4 = l4'
 ·have h := fin true (hn.1 hc)
  exact h.iff ⟨fun e => ⟨e, hc⟩, fun e => e.1⟩
 ·have h := fin false (hn.2 hc)
  exact ⟨fun e => absurd e.2 hc, fun _ => by
   by_cases e : l2 = l2'
   ·exact h.1 e
   ·exact h.2 e⟩
theorem RSame_ev (hb : l4.length < 1000) (hb_l3 : l3.length < 1000) (hf : ∀ p ∈ l3, fewP p) (hb_l2 : l2.length < 1000) : EvIf (a = a' ∧ b = b' ∧ l2 = l2' ∧ l3 = l3' ∧ l4 = l4') (fun k => parcloseref03_Same.f k a b l2 l3 l4 a' b' l2' l3' l4') true := by
 have no : Ev (fun k => parcloseref03_Same.j0 k true a b l2 l3 l4 a' b' l2' l3' l4') false := Ev.step (f := fun _ => some false) (fun k => by simp only [parcloseref03_Same.j0]; rw [if_pos trivial]) (Ev.now _)
 by_cases e0 : a = a'
 case neg => exact ⟨fun e => absurd e.1 e0, fun e => Ev.congr (fun k => by unfold parcloseref03_Same.f; rw [if_neg e0]) no⟩
 by_cases e1 : b = b'
 case neg => exact ⟨fun e => absurd e.2.1 e1, fun e => Ev.congr (fun k => by unfold parcloseref03_Same.f; rw [if_pos e0, if_neg e1]) no⟩
 by_cases e2 : l2.length = l2'.length
 case neg => exact ⟨fun e => absurd (by rw [e.2.2.1]) e2, fun e => Ev.congr (fun k => by unfold parcloseref03_Same.f; rw [if_pos e0, if_pos e1, if_neg (by omega)]) no⟩
 by_cases e3 : l3.length = l3'.length
 case neg => exact ⟨fun e => absurd (by rw [e.2.2.2.1]) e3, fun e => Ev.congr (fun k => by unfold parcloseref03_Same.f; rw [if_pos e0, if_pos e1, if_pos (by omega), if_neg (by omega)]) no⟩
 refine EvIf.congr (fun k => by unfold parcloseref03_Same.f; rw [if_pos e0, if_pos e1, if_pos (by omega), if_pos (by omega)]) ?_
 by_cases e4 : l4.length = l4'.length
 ·have t : ((l4.length : Int) != (l4'.length : Int)) = false := by rw [e4]; simp
  rw [t]
  have h := (rs_l0 a b l2 l3 l4 a' b' l2' l3' l4' hb e4 hb_l3 e3 hf hb_l2 e2).iff (Q := a = a' ∧ b = b' ∧ l2 = l2' ∧ l3 = l3' ∧ l4 = l4') ⟨fun e => ⟨e0, e1, e⟩, fun e => e.2.2⟩
  exact ⟨fun e => Ev.step (fun k => by simp only [parcloseref03_Same.j0]; rw [if_neg (by decide)]; rfl) (h.1 e), fun e => Ev.step (fun k => by simp only [parcloseref03_Same.j0]; rw [if_neg (by decide)]; rfl) (h.2 e)⟩
 ·have t : ((l4.length : Int) != (l4'.length : Int)) = true := by simp; omega
  rw [t]
  exact ⟨fun e => absurd (by rw [e.2.2.2.2]) e4, fun _ => no⟩
end
end Go.Proofs.Ytmjhnmdmopmfjaa.Fn
namespace Go.Proofs.Ytmjhnmdmopmfjaa.Fn
open Go.RowKit Go.Proofs.YtmjhnmdmopmfjaaW.PrintWords Go.Proofs.YtmjhnmdmopmfjaaW.PrintLast Go.Proofs.YtmjhnmdmopmfjaaW.PrintMore
set_option linter.unusedVariables false
set_option linter.unusedSimpArgs false
def Opens (P : Program) (t : TypeId) {α : Type} (d : Kd α) (Q : α → Prop) : Prop :=
 ∀ (H : Type) (enc : TypeId × Value → H) (w : World) (base : Nat) (spare : Nat → Bool) (held : Bool) (fuel : Nat) (cs : List Value) (x : DataW H × List MemPlace),
  DataW.trod enc P w base spare held fuel t cs = some x → ∃ a : α, d.K w a cs ∧ Q a
def qInt (k : IntKind) (n : Int) : Prop := (Lit.int k n).wf = true
def qAny {α : Type} (_ : α) : Prop := True
def qStr (s : ByteArray) : Prop := s.size ≤ maxLen
def qList {α : Type} (Q : α → Prop) (xs : List α) : Prop := xs.length ≤ maxLen ∧ ∀ x ∈ xs, Q x
theorem opens_int {P : Program} {t : TypeId} {k : IntKind} (ht : P.underlying t = some (.int k)) : Opens P t (Kd.int k) (qInt k) := by
 intro H enc w base spare held fuel cs x h
 obtain ⟨n, e, _, hw⟩ := DataW.trod_int ht h
 exact ⟨n, e, hw⟩
theorem opens_bool {P : Program} {t : TypeId} (ht : P.underlying t = some .bool) : Opens P t Kd.bool qAny := by
 intro H enc w base spare held fuel cs x h
 obtain ⟨n, e, _⟩ := DataW.trod_bool ht h
 exact ⟨n, e, trivial⟩
theorem list_of {α : Type} {p : Nat → α → Prop} : ∀ n, (∀ i, i < n → ∃ a, p i a) → ∃ xs : List α, xs.length = n ∧ ∀ i a, xs[i]? = some a → p i a
 | 0, _ => ⟨[], rfl, fun i a h => by simp at h⟩
 | n + 1, h => by
  obtain ⟨xs, hl, hx⟩ := list_of n (fun i hi => h i (by omega))
  obtain ⟨a, ha⟩ := h n (by omega)
  refine ⟨xs ++ [a], by simp [hl], fun i b hb => ?_⟩
  rcases Nat.lt_trichotomy i n with hi | hi | hi
  ·rw [List.getElem?_append_left (by omega)] at hb
   exact hx i b hb
  ·subst hi
   rw [← hl] at hb
   simp at hb
   subst hb
   rw [hl] at *
   exact ha
  ·rw [List.getElem?_eq_none (by simp [hl]; omega)] at hb
   cases hb
theorem opens_slice {P : Program} {t e : TypeId} {α : Type} {d : Kd α} {Q : α → Prop} (ht : P.underlying t = some (.slice e)) (hc : P.cellsOf e = d.sz) (ho : Opens P e d Q) : Opens P t (Kd.slice e d) (qList Q) := by
 intro H enc w base spare held fuel cs x h
 rcases Go.Deep.open_slice ht h with ⟨rfl, _⟩ | ⟨a, len, cap, m, n, D, Pl, rfl, _, hl, hm, hmm, _, hx⟩
 ·exact ⟨[], ⟨none, 0, rfl, Nat.le_refl _, Kd.C_nil _ _⟩, by simp, fun x hx => by cases hx⟩
 ·have hlm : len ≤ m := by rw [hmm]; split <;> omega
  obtain ⟨xs, hxl, hxs⟩ := list_of (p := fun i a' => ∃ cs', w.cells? base (a.add (i * P.cellsOf e)) (P.cellsOf e) = some cs' ∧ d.K w a' cs' ∧ Q a') len (fun i hi => by
   obtain ⟨cs', h1, h2⟩ := hx i (by omega)
   obtain ⟨a', h3, h4⟩ := ho H enc w base spare held n cs' _ h2
   exact ⟨a', cs', h1, h3, h4⟩)
  refine ⟨xs, ⟨some a, cap, by rw [hxl], by omega, ?_⟩, by omega, fun x hx => ?_⟩
  ·refine ⟨rfl, by rw [hxl]; unfold maxLen at hm; omega, fun _ => ⟨a, rfl, ?_⟩⟩
   intro j p hp
   obtain ⟨cs', h1, h2, _⟩ := hxs j p hp
   obtain ⟨_, hcl, hci⟩ := World.cells?_some h1
   refine ⟨cs', by rw [hcl, hc], h2, fun i u hu => ?_⟩
   have hi : i < cs'.length := (List.getElem?_eq_some_iff.1 hu).1
   have h4 := hci i (by omega)
   rw [hu, Go.Deep.add_add, hc] at h4
   exact h4
  ·obtain ⟨i, hi, rfl⟩ := List.mem_iff_getElem.1 hx
   obtain ⟨_, _, _, hq⟩ := hxs i _ (List.getElem?_eq_getElem hi)
   exact hq
end Go.Proofs.Ytmjhnmdmopmfjaa.Fn
namespace Go.Proofs.Ytmjhnmdmopmfjaa.Fn
open Go.RowKit Go.Proofs.YtmjhnmdmopmfjaaW.PrintWords Go.Proofs.YtmjhnmdmopmfjaaW.PrintLast Go.Proofs.YtmjhnmdmopmfjaaW.PrintMore
attribute [local go_sem] max2_int min2_int max_two min_two max_three min_three max_four min_four
set_option linter.unusedVariables false
set_option linter.unusedSimpArgs false
open Go.ChangeShapes Go.WideShapes
theorem cellsO3 : Try.prog.cellsOf 3 = 1 := by kernel_rfl
theorem cellsO77 : Try.prog.cellsOf 77 = 3 := by kernel_rfl
def q77 (x : S77) : Prop := (qInt .i64) x.f0 ∧ (qInt .i64) x.f1 ∧ (qInt .i64) x.f2
set_option maxRecDepth 100000 in
theorem opens77 : Opens Try.prog 77 k77 q77 := by
 intro H enc w base spare held fuel cs x h
 obtain ⟨xs, n, rfl, _, hlen, hxs, hf⟩ := DataW.trod_struct Try.underlying77 h
 rw [cellsO77] at hlen
 have g0 : DataW.trod enc Try.prog w base spare held n 3 ((cs.drop (0)).take (Try.prog.cellsOf 3)) = xs[0]? := hf 0 _ rfl
 rw [cellsO3] at g0
 obtain ⟨a0, K0', Q0⟩ := (opens_int Try.underlying3) H enc w base spare held n _ _ (g0.trans (List.getElem?_eq_getElem (by rw [hxs]; decide)))
 have g1 : DataW.trod enc Try.prog w base spare held n 3 ((cs.drop (1)).take (Try.prog.cellsOf 3)) = xs[1]? := hf 1 _ rfl
 rw [cellsO3] at g1
 obtain ⟨a1, K1', Q1⟩ := (opens_int Try.underlying3) H enc w base spare held n _ _ (g1.trans (List.getElem?_eq_getElem (by rw [hxs]; decide)))
 have g2 : DataW.trod enc Try.prog w base spare held n 3 ((cs.drop (2)).take (Try.prog.cellsOf 3)) = xs[2]? := hf 2 _ rfl
 rw [cellsO3] at g2
 obtain ⟨a2, K2', Q2⟩ := (opens_int Try.underlying3) H enc w base spare held n _ _ (g2.trans (List.getElem?_eq_getElem (by rw [hxs]; decide)))
 exact ⟨⟨a0, a1, a2⟩, ⟨_, _, (List.take_append_drop 1 _).symm, (by simpa only [List.drop_drop, List.drop_zero] using K0'), ⟨_, _, (List.take_append_drop 1 _).symm, (by simpa only [List.drop_drop, List.drop_zero] using K1'), (by have h_ := K2'; rw [List.take_of_length_le (by rw [List.length_drop]; omega)] at h_; simpa only [List.drop_drop, List.drop_zero] using h_)⟩⟩, Q0, Q1, Q2⟩
theorem cellsO4 : Try.prog.cellsOf 4 = 1 := by kernel_rfl
theorem cellsO56 : Try.prog.cellsOf 56 = 6 := by kernel_rfl
def q56 (x : S56) : Prop := qAny x.f0 ∧ (qInt .i64) x.f1 ∧ (qInt .i64) x.f2 ∧ (qInt .i64) x.f3 ∧ (qInt .i64) x.f4 ∧ (qInt .i64) x.f5
set_option maxRecDepth 100000 in
theorem opens56 : Opens Try.prog 56 k56 q56 := by
 intro H enc w base spare held fuel cs x h
 obtain ⟨xs, n, rfl, _, hlen, hxs, hf⟩ := DataW.trod_struct Try.underlying56 h
 rw [cellsO56] at hlen
 have g0 : DataW.trod enc Try.prog w base spare held n 4 ((cs.drop (0)).take (Try.prog.cellsOf 4)) = xs[0]? := hf 0 _ rfl
 rw [cellsO4] at g0
 obtain ⟨a0, K0', Q0⟩ := (opens_bool Try.underlying4) H enc w base spare held n _ _ (g0.trans (List.getElem?_eq_getElem (by rw [hxs]; decide)))
 have g1 : DataW.trod enc Try.prog w base spare held n 3 ((cs.drop (1)).take (Try.prog.cellsOf 3)) = xs[1]? := hf 1 _ rfl
 rw [cellsO3] at g1
 obtain ⟨a1, K1', Q1⟩ := (opens_int Try.underlying3) H enc w base spare held n _ _ (g1.trans (List.getElem?_eq_getElem (by rw [hxs]; decide)))
 have g2 : DataW.trod enc Try.prog w base spare held n 3 ((cs.drop (2)).take (Try.prog.cellsOf 3)) = xs[2]? := hf 2 _ rfl
 rw [cellsO3] at g2
 obtain ⟨a2, K2', Q2⟩ := (opens_int Try.underlying3) H enc w base spare held n _ _ (g2.trans (List.getElem?_eq_getElem (by rw [hxs]; decide)))
 have g3 : DataW.trod enc Try.prog w base spare held n 3 ((cs.drop (3)).take (Try.prog.cellsOf 3)) = xs[3]? := hf 3 _ rfl
 rw [cellsO3] at g3
 obtain ⟨a3, K3', Q3⟩ := (opens_int Try.underlying3) H enc w base spare held n _ _ (g3.trans (List.getElem?_eq_getElem (by rw [hxs]; decide)))
 have g4 : DataW.trod enc Try.prog w base spare held n 3 ((cs.drop (4)).take (Try.prog.cellsOf 3)) = xs[4]? := hf 4 _ rfl
 rw [cellsO3] at g4
 obtain ⟨a4, K4', Q4⟩ := (opens_int Try.underlying3) H enc w base spare held n _ _ (g4.trans (List.getElem?_eq_getElem (by rw [hxs]; decide)))
 have g5 : DataW.trod enc Try.prog w base spare held n 3 ((cs.drop (5)).take (Try.prog.cellsOf 3)) = xs[5]? := hf 5 _ rfl
 rw [cellsO3] at g5
 obtain ⟨a5, K5', Q5⟩ := (opens_int Try.underlying3) H enc w base spare held n _ _ (g5.trans (List.getElem?_eq_getElem (by rw [hxs]; decide)))
 exact ⟨⟨a0, a1, a2, a3, a4, a5⟩, ⟨_, _, (List.take_append_drop 1 _).symm, (by simpa only [List.drop_drop, List.drop_zero] using K0'), ⟨_, _, (List.take_append_drop 1 _).symm, (by simpa only [List.drop_drop, List.drop_zero] using K1'), ⟨_, _, (List.take_append_drop 1 _).symm, (by simpa only [List.drop_drop, List.drop_zero] using K2'), ⟨_, _, (List.take_append_drop 1 _).symm, (by simpa only [List.drop_drop, List.drop_zero] using K3'), ⟨_, _, (List.take_append_drop 1 _).symm, (by simpa only [List.drop_drop, List.drop_zero] using K4'), (by have h_ := K5'; rw [List.take_of_length_le (by rw [List.length_drop]; omega)] at h_; simpa only [List.drop_drop, List.drop_zero] using h_)⟩⟩⟩⟩⟩, Q0, Q1, Q2, Q3, Q4, Q5⟩
theorem cellsO57 : Try.prog.cellsOf 57 = 3 := by kernel_rfl
def q57 (x : S57) : Prop := qAny x.f0 ∧ (qInt .i64) x.f1 ∧ (qInt .i64) x.f2
set_option maxRecDepth 100000 in
theorem opens57 : Opens Try.prog 57 k57 q57 := by
 intro H enc w base spare held fuel cs x h
 obtain ⟨xs, n, rfl, _, hlen, hxs, hf⟩ := DataW.trod_struct Try.underlying57 h
 rw [cellsO57] at hlen
 have g0 : DataW.trod enc Try.prog w base spare held n 4 ((cs.drop (0)).take (Try.prog.cellsOf 4)) = xs[0]? := hf 0 _ rfl
 rw [cellsO4] at g0
 obtain ⟨a0, K0', Q0⟩ := (opens_bool Try.underlying4) H enc w base spare held n _ _ (g0.trans (List.getElem?_eq_getElem (by rw [hxs]; decide)))
 have g1 : DataW.trod enc Try.prog w base spare held n 3 ((cs.drop (1)).take (Try.prog.cellsOf 3)) = xs[1]? := hf 1 _ rfl
 rw [cellsO3] at g1
 obtain ⟨a1, K1', Q1⟩ := (opens_int Try.underlying3) H enc w base spare held n _ _ (g1.trans (List.getElem?_eq_getElem (by rw [hxs]; decide)))
 have g2 : DataW.trod enc Try.prog w base spare held n 3 ((cs.drop (2)).take (Try.prog.cellsOf 3)) = xs[2]? := hf 2 _ rfl
 rw [cellsO3] at g2
 obtain ⟨a2, K2', Q2⟩ := (opens_int Try.underlying3) H enc w base spare held n _ _ (g2.trans (List.getElem?_eq_getElem (by rw [hxs]; decide)))
 exact ⟨⟨a0, a1, a2⟩, ⟨_, _, (List.take_append_drop 1 _).symm, (by simpa only [List.drop_drop, List.drop_zero] using K0'), ⟨_, _, (List.take_append_drop 1 _).symm, (by simpa only [List.drop_drop, List.drop_zero] using K1'), (by have h_ := K2'; rw [List.take_of_length_le (by rw [List.length_drop]; omega)] at h_; simpa only [List.drop_drop, List.drop_zero] using h_)⟩⟩, Q0, Q1, Q2⟩
theorem cellsO5 : Try.prog.cellsOf 5 = 1 := by kernel_rfl
theorem cellsO47 : Try.prog.cellsOf 47 = 3 := by kernel_rfl
def q47 (x : S47) : Prop := (qInt .u8) x.f0 ∧ (qInt .u8) x.f1 ∧ (qInt .u8) x.f2
set_option maxRecDepth 100000 in
theorem opens47 : Opens Try.prog 47 k47 q47 := by
 intro H enc w base spare held fuel cs x h
 obtain ⟨xs, n, rfl, _, hlen, hxs, hf⟩ := DataW.trod_array Try.underlying47 h
 rw [cellsO47] at hlen
 have g0 : DataW.trod enc Try.prog w base spare held n 5 ((cs.drop (0 * Try.prog.cellsOf 5)).take (Try.prog.cellsOf 5)) = xs[0]? := hf 0 (by decide)
 rw [cellsO5] at g0
 obtain ⟨a0, K0', Q0⟩ := (opens_int Try.underlying5) H enc w base spare held n _ _ (g0.trans (List.getElem?_eq_getElem (by rw [hxs]; decide)))
 simp only [Nat.reduceMul] at K0'
 have g1 : DataW.trod enc Try.prog w base spare held n 5 ((cs.drop (1 * Try.prog.cellsOf 5)).take (Try.prog.cellsOf 5)) = xs[1]? := hf 1 (by decide)
 rw [cellsO5] at g1
 obtain ⟨a1, K1', Q1⟩ := (opens_int Try.underlying5) H enc w base spare held n _ _ (g1.trans (List.getElem?_eq_getElem (by rw [hxs]; decide)))
 simp only [Nat.reduceMul] at K1'
 have g2 : DataW.trod enc Try.prog w base spare held n 5 ((cs.drop (2 * Try.prog.cellsOf 5)).take (Try.prog.cellsOf 5)) = xs[2]? := hf 2 (by decide)
 rw [cellsO5] at g2
 obtain ⟨a2, K2', Q2⟩ := (opens_int Try.underlying5) H enc w base spare held n _ _ (g2.trans (List.getElem?_eq_getElem (by rw [hxs]; decide)))
 simp only [Nat.reduceMul] at K2'
 exact ⟨⟨a0, a1, a2⟩, ⟨_, _, (List.take_append_drop 1 _).symm, (by simpa only [List.drop_drop, List.drop_zero] using K0'), ⟨_, _, (List.take_append_drop 1 _).symm, (by simpa only [List.drop_drop, List.drop_zero] using K1'), (by have h_ := K2'; rw [List.take_of_length_le (by rw [List.length_drop]; omega)] at h_; simpa only [List.drop_drop, List.drop_zero] using h_)⟩⟩, Q0, Q1, Q2⟩
theorem cellsO58 : Try.prog.cellsOf 58 = 1 := by kernel_rfl
theorem cellsO59 : Try.prog.cellsOf 59 = 1 := by kernel_rfl
theorem cellsO27 : Try.prog.cellsOf 27 = 1 := by kernel_rfl
theorem cellsO61 : Try.prog.cellsOf 61 = 6 := by kernel_rfl
def q61 (x : S61) : Prop := (qList q56) x.f0 ∧ (qList q57) x.f1 ∧ (qList (qInt .i64)) x.f2 ∧ q47 x.f3
set_option maxRecDepth 100000 in
theorem opens61 : Opens Try.prog 61 k61 q61 := by
 intro H enc w base spare held fuel cs x h
 obtain ⟨xs, n, rfl, _, hlen, hxs, hf⟩ := DataW.trod_struct Try.underlying61 h
 rw [cellsO61] at hlen
 have g0 : DataW.trod enc Try.prog w base spare held n 58 ((cs.drop (0)).take (Try.prog.cellsOf 58)) = xs[0]? := hf 0 _ rfl
 rw [cellsO58] at g0
 obtain ⟨a0, K0', Q0⟩ := (opens_slice Try.underlying58 cellsO56 opens56) H enc w base spare held n _ _ (g0.trans (List.getElem?_eq_getElem (by rw [hxs]; decide)))
 have g1 : DataW.trod enc Try.prog w base spare held n 59 ((cs.drop (1)).take (Try.prog.cellsOf 59)) = xs[1]? := hf 1 _ rfl
 rw [cellsO59] at g1
 obtain ⟨a1, K1', Q1⟩ := (opens_slice Try.underlying59 cellsO57 opens57) H enc w base spare held n _ _ (g1.trans (List.getElem?_eq_getElem (by rw [hxs]; decide)))
 have g2 : DataW.trod enc Try.prog w base spare held n 27 ((cs.drop (2)).take (Try.prog.cellsOf 27)) = xs[2]? := hf 2 _ rfl
 rw [cellsO27] at g2
 obtain ⟨a2, K2', Q2⟩ := (opens_slice Try.underlying27 cellsO3 (opens_int Try.underlying3)) H enc w base spare held n _ _ (g2.trans (List.getElem?_eq_getElem (by rw [hxs]; decide)))
 have g3 : DataW.trod enc Try.prog w base spare held n 47 ((cs.drop (3)).take (Try.prog.cellsOf 47)) = xs[3]? := hf 3 _ rfl
 rw [cellsO47] at g3
 obtain ⟨a3, K3', Q3⟩ := opens47 H enc w base spare held n _ _ (g3.trans (List.getElem?_eq_getElem (by rw [hxs]; decide)))
 exact ⟨⟨a0, a1, a2, a3⟩, ⟨_, _, (List.take_append_drop 1 _).symm, (by simpa only [List.drop_drop, List.drop_zero] using K0'), ⟨_, _, (List.take_append_drop 1 _).symm, (by simpa only [List.drop_drop, List.drop_zero] using K1'), ⟨_, _, (List.take_append_drop 1 _).symm, (by simpa only [List.drop_drop, List.drop_zero] using K2'), (by have h_ := K3'; rw [List.take_of_length_le (by rw [List.length_drop]; omega)] at h_; simpa only [List.drop_drop, List.drop_zero] using h_)⟩⟩⟩, Q0, Q1, Q2, Q3⟩
theorem cellsO78 : Try.prog.cellsOf 78 = 4 := by kernel_rfl
def q78 (x : S78) : Prop := qAny x.f0 ∧ (qInt .i64) x.f1 ∧ (qInt .i64) x.f2 ∧ (qInt .i64) x.f3
set_option maxRecDepth 100000 in
theorem opens78 : Opens Try.prog 78 k78 q78 := by
 intro H enc w base spare held fuel cs x h
 obtain ⟨xs, n, rfl, _, hlen, hxs, hf⟩ := DataW.trod_struct Try.underlying78 h
 rw [cellsO78] at hlen
 have g0 : DataW.trod enc Try.prog w base spare held n 4 ((cs.drop (0)).take (Try.prog.cellsOf 4)) = xs[0]? := hf 0 _ rfl
 rw [cellsO4] at g0
 obtain ⟨a0, K0', Q0⟩ := (opens_bool Try.underlying4) H enc w base spare held n _ _ (g0.trans (List.getElem?_eq_getElem (by rw [hxs]; decide)))
 have g1 : DataW.trod enc Try.prog w base spare held n 3 ((cs.drop (1)).take (Try.prog.cellsOf 3)) = xs[1]? := hf 1 _ rfl
 rw [cellsO3] at g1
 obtain ⟨a1, K1', Q1⟩ := (opens_int Try.underlying3) H enc w base spare held n _ _ (g1.trans (List.getElem?_eq_getElem (by rw [hxs]; decide)))
 have g2 : DataW.trod enc Try.prog w base spare held n 3 ((cs.drop (2)).take (Try.prog.cellsOf 3)) = xs[2]? := hf 2 _ rfl
 rw [cellsO3] at g2
 obtain ⟨a2, K2', Q2⟩ := (opens_int Try.underlying3) H enc w base spare held n _ _ (g2.trans (List.getElem?_eq_getElem (by rw [hxs]; decide)))
 have g3 : DataW.trod enc Try.prog w base spare held n 3 ((cs.drop (3)).take (Try.prog.cellsOf 3)) = xs[3]? := hf 3 _ rfl
 rw [cellsO3] at g3
 obtain ⟨a3, K3', Q3⟩ := (opens_int Try.underlying3) H enc w base spare held n _ _ (g3.trans (List.getElem?_eq_getElem (by rw [hxs]; decide)))
 exact ⟨⟨a0, a1, a2, a3⟩, ⟨_, _, (List.take_append_drop 1 _).symm, (by simpa only [List.drop_drop, List.drop_zero] using K0'), ⟨_, _, (List.take_append_drop 1 _).symm, (by simpa only [List.drop_drop, List.drop_zero] using K1'), ⟨_, _, (List.take_append_drop 1 _).symm, (by simpa only [List.drop_drop, List.drop_zero] using K2'), (by have h_ := K3'; rw [List.take_of_length_le (by rw [List.length_drop]; omega)] at h_; simpa only [List.drop_drop, List.drop_zero] using h_)⟩⟩⟩, Q0, Q1, Q2, Q3⟩
theorem cellsO22 : Try.prog.cellsOf 22 = 1 := by kernel_rfl
theorem cellsO23 : Try.prog.cellsOf 23 = 1 := by kernel_rfl
theorem cellsO24 : Try.prog.cellsOf 24 = 1 := by kernel_rfl
theorem cellsO26 : Try.prog.cellsOf 26 = 5 := by kernel_rfl
def q26 (x : S26) : Prop := (qInt .i64) x.f0 ∧ (qInt .i64) x.f1 ∧ (qList q77) x.f2 ∧ (qList q61) x.f3 ∧ (qList q78) x.f4
set_option maxRecDepth 100000 in
theorem opens26 : Opens Try.prog 26 k26 q26 := by
 intro H enc w base spare held fuel cs x h
 obtain ⟨xs, n, rfl, _, hlen, hxs, hf⟩ := DataW.trod_struct Try.underlying26 h
 rw [cellsO26] at hlen
 have g0 : DataW.trod enc Try.prog w base spare held n 3 ((cs.drop (0)).take (Try.prog.cellsOf 3)) = xs[0]? := hf 0 _ rfl
 rw [cellsO3] at g0
 obtain ⟨a0, K0', Q0⟩ := (opens_int Try.underlying3) H enc w base spare held n _ _ (g0.trans (List.getElem?_eq_getElem (by rw [hxs]; decide)))
 have g1 : DataW.trod enc Try.prog w base spare held n 3 ((cs.drop (1)).take (Try.prog.cellsOf 3)) = xs[1]? := hf 1 _ rfl
 rw [cellsO3] at g1
 obtain ⟨a1, K1', Q1⟩ := (opens_int Try.underlying3) H enc w base spare held n _ _ (g1.trans (List.getElem?_eq_getElem (by rw [hxs]; decide)))
 have g2 : DataW.trod enc Try.prog w base spare held n 22 ((cs.drop (2)).take (Try.prog.cellsOf 22)) = xs[2]? := hf 2 _ rfl
 rw [cellsO22] at g2
 obtain ⟨a2, K2', Q2⟩ := (opens_slice Try.underlying22 cellsO77 opens77) H enc w base spare held n _ _ (g2.trans (List.getElem?_eq_getElem (by rw [hxs]; decide)))
 have g3 : DataW.trod enc Try.prog w base spare held n 23 ((cs.drop (3)).take (Try.prog.cellsOf 23)) = xs[3]? := hf 3 _ rfl
 rw [cellsO23] at g3
 obtain ⟨a3, K3', Q3⟩ := (opens_slice Try.underlying23 cellsO61 opens61) H enc w base spare held n _ _ (g3.trans (List.getElem?_eq_getElem (by rw [hxs]; decide)))
 have g4 : DataW.trod enc Try.prog w base spare held n 24 ((cs.drop (4)).take (Try.prog.cellsOf 24)) = xs[4]? := hf 4 _ rfl
 rw [cellsO24] at g4
 obtain ⟨a4, K4', Q4⟩ := (opens_slice Try.underlying24 cellsO78 opens78) H enc w base spare held n _ _ (g4.trans (List.getElem?_eq_getElem (by rw [hxs]; decide)))
 exact ⟨⟨a0, a1, a2, a3, a4⟩, ⟨_, _, (List.take_append_drop 1 _).symm, (by simpa only [List.drop_drop, List.drop_zero] using K0'), ⟨_, _, (List.take_append_drop 1 _).symm, (by simpa only [List.drop_drop, List.drop_zero] using K1'), ⟨_, _, (List.take_append_drop 1 _).symm, (by simpa only [List.drop_drop, List.drop_zero] using K2'), ⟨_, _, (List.take_append_drop 1 _).symm, (by simpa only [List.drop_drop, List.drop_zero] using K3'), (by have h_ := K4'; rw [List.take_of_length_le (by rw [List.length_drop]; omega)] at h_; simpa only [List.drop_drop, List.drop_zero] using h_)⟩⟩⟩⟩, Q0, Q1, Q2, Q3, Q4⟩
end Go.Proofs.Ytmjhnmdmopmfjaa.Fn
