/- Part of the proof of ConfApart: see the last text. (Words laid by the print, as far as they are named here; walks written by a program of this project; plain laws.) -/
import Derived.Test.YtmjhnmdmopmfjaaConfApartZ3
namespace Go.Proofs.Ytmjhnmdmopmfjaa.Fn
open Go.RowKit Go.Proofs.YtmjhnmdmopmfjaaW.PrintWords Go.Proofs.YtmjhnmdmopmfjaaW.PrintLast Go.Proofs.YtmjhnmdmopmfjaaW.PrintMore
attribute [local go_sem] max2_int min2_int max_two min_two max_three min_three max_four min_four
set_option linter.unusedVariables false
set_option linter.unusedSimpArgs false
attribute [local go_sem high] eqA77 eqA78
mutual
def parcloseref03_Same.j0 : Nat → Bool → Int → Int → List (S77) → List (S61) → List (S78) → Int → Int → List (S77) → List (S61) → List (S78) → Option (Bool)
 | 0, _, _, _, _, _, _, _, _, _, _, _ => none
 | k + 1, x46, x234000, x234001, x234002, x234003, x234004, x235000, x235001, x235002, x235003, x235004 => if x46 = true then (some false) else (parcloseref03_Same.l0 k 0 x234000 x234001 x234002 x234003 x234004 x235000 x235001 x235002 x235003 x235004)
def parcloseref03_Same.l0 : Nat → Int → Int → Int → List (S77) → List (S61) → List (S78) → Int → Int → List (S77) → List (S61) → List (S78) → Option (Bool)
 | 0, _, _, _, _, _, _, _, _, _, _, _ => none
 | k + 1, x5, x234000, x234001, x234002, x234003, x234004, x235000, x235001, x235002, x235003, x235004 => if x5 < (x234002.length : Int) then (if 0 ≤ x5 then (if x5 < (x235002.length : Int) then (if (!(((rd_T77 x234002 x5).f0) == ((rd_T77 x235002 x5).f0)) || (!(((rd_T77 x234002 x5).f1) == ((rd_T77 x235002 x5).f1)) || (!(((rd_T77 x234002 x5).f2) == ((rd_T77 x235002 x5).f2))))) = true then (some false) else (parcloseref03_Same.l0 k (wrap64 (x5 + 1)) x234000 x234001 x234002 x234003 x234004 x235000 x235001 x235002 x235003 x235004)) else (none)) else (none)) else (parcloseref03_Same.l1 k 0 x234000 x234001 x234002 x234003 x234004 x235000 x235001 x235002 x235003 x235004)
def parcloseref03_Same.l1 : Nat → Int → Int → Int → List (S77) → List (S61) → List (S78) → Int → Int → List (S77) → List (S61) → List (S78) → Option (Bool)
 | 0, _, _, _, _, _, _, _, _, _, _, _ => none
 | k + 1, x6, x234000, x234001, x234002, x234003, x234004, x235000, x235001, x235002, x235003, x235004 => if x6 < (x234003.length : Int) then (if 0 ≤ x6 then (if x6 < (x235003.length : Int) then ((parcloseref03_samePart.f k ((rd_T61 x234003 x6).f0) ((rd_T61 x234003 x6).f1) ((rd_T61 x234003 x6).f2) ((rd_T61 x234003 x6).f3.f0) ((rd_T61 x234003 x6).f3.f1) ((rd_T61 x234003 x6).f3.f2) ((rd_T61 x235003 x6).f0) ((rd_T61 x235003 x6).f1) ((rd_T61 x235003 x6).f2) ((rd_T61 x235003 x6).f3.f0) ((rd_T61 x235003 x6).f3.f1) ((rd_T61 x235003 x6).f3.f2)).bind fun t239 => (if t239 = true then (parcloseref03_Same.l1 k (wrap64 (x6 + 1)) x234000 x234001 x234002 x234003 x234004 x235000 x235001 x235002 x235003 x235004) else (some false))) else (none)) else (none)) else (parcloseref03_Same.l2 k 0 x234000 x234001 x234002 x234003 x234004 x235000 x235001 x235002 x235003 x235004)
def parcloseref03_Same.l2 : Nat → Int → Int → Int → List (S77) → List (S61) → List (S78) → Int → Int → List (S77) → List (S61) → List (S78) → Option (Bool)
 | 0, _, _, _, _, _, _, _, _, _, _, _ => none
 | k + 1, x7, x234000, x234001, x234002, x234003, x234004, x235000, x235001, x235002, x235003, x235004 => if x7 < (x234004.length : Int) then (if 0 ≤ x7 then (if x7 < (x235004.length : Int) then (if (!(((rd_T78 x234004 x7).f0) == ((rd_T78 x235004 x7).f0)) || (!(((rd_T78 x234004 x7).f1) == ((rd_T78 x235004 x7).f1)) || (!(((rd_T78 x234004 x7).f2) == ((rd_T78 x235004 x7).f2)) || (!(((rd_T78 x234004 x7).f3) == ((rd_T78 x235004 x7).f3)))))) = true then (some false) else (parcloseref03_Same.l2 k (wrap64 (x7 + 1)) x234000 x234001 x234002 x234003 x234004 x235000 x235001 x235002 x235003 x235004)) else (none)) else (none)) else (some true)
end
def parcloseref03_Same.f (k : Nat) (a0_0 : Int) (a0_1 : Int) (l0_2 : List (S77)) (l0_3 : List (S61)) (l0_4 : List (S78)) (a1_0 : Int) (a1_1 : Int) (l1_2 : List (S77)) (l1_3 : List (S61)) (l1_4 : List (S78)) : Option (Bool) := if a0_0 = a1_0 then (if a0_1 = a1_1 then (if (l0_2.length : Int) = (l1_2.length : Int) then (if (l0_3.length : Int) = (l1_3.length : Int) then (parcloseref03_Same.j0 k ((l0_4.length : Int) != (l1_4.length : Int)) a0_0 a0_1 l0_2 l0_3 l0_4 a1_0 a1_1 l1_2 l1_3 l1_4) else (parcloseref03_Same.j0 k true a0_0 a0_1 l0_2 l0_3 l0_4 a1_0 a1_1 l1_2 l1_3 l1_4)) else (parcloseref03_Same.j0 k true a0_0 a0_1 l0_2 l0_3 l0_4 a1_0 a1_1 l1_2 l1_3 l1_4)) else (parcloseref03_Same.j0 k true a0_0 a0_1 l0_2 l0_3 l0_4 a1_0 a1_1 l1_2 l1_3 l1_4)) else (parcloseref03_Same.j0 k true a0_0 a0_1 l0_2 l0_3 l0_4 a1_0 a1_1 l1_2 l1_3 l1_4)
def parcloseref03_Same.T6 : Bool × List (List Nat × List Nat) := (true, [([], []), ([0], [0]), ([], []), ([1, 2], [1, 2]), ([3], [3]), ([], []), ([5], [5]), ([], []), ([6, 7], [6, 7]), ([8], [8]), ([4, 9], [4, 9])])
def parcloseref03_Same.B6 : List Nat := [0, 1, 0, 7, 15, 0, 32, 0, 224, 480, 1023]
theorem parcloseref03_Same.tab6 : rtab .any (opsOf Try.f23 6) = parcloseref03_Same.T6 := by kernel_rfl
theorem parcloseref03_Same.bits6 : waitsOk parcloseref03_Same.T6.2 parcloseref03_Same.B6 = true := by kernel_rfl
def parcloseref03_Same.T11 : Bool × List (List Nat × List Nat) := (true, [([], []), ([0], [0]), ([], []), ([1, 2], [1, 2]), ([3], [3]), ([], []), ([5], [5]), ([], []), ([6, 7], [6, 7]), ([8], [8]), ([4, 9], [4, 9]), ([10], [10])])
def parcloseref03_Same.B11 : List Nat := [0, 1, 0, 7, 15, 0, 32, 0, 224, 480, 1023, 2047]
theorem parcloseref03_Same.tab11 : rtab .any (opsOf Try.f23 11) = parcloseref03_Same.T11 := by kernel_rfl
theorem parcloseref03_Same.bits11 : waitsOk parcloseref03_Same.T11.2 parcloseref03_Same.B11 = true := by kernel_rfl
def parcloseref03_Same.T16 : Bool × List (List Nat × List Nat) := (true, [([], []), ([0], [0]), ([], []), ([1, 2], [1, 2]), ([3], [3]), ([], []), ([5], [5]), ([], []), ([6, 7], [6, 7]), ([8], [8]), ([4, 9], [4, 9])])
def parcloseref03_Same.B16 : List Nat := [0, 1, 0, 7, 15, 0, 32, 0, 224, 480, 1023]
theorem parcloseref03_Same.tab16 : rtab .any (opsOf Try.f23 16) = parcloseref03_Same.T16 := by kernel_rfl
theorem parcloseref03_Same.bits16 : waitsOk parcloseref03_Same.T16.2 parcloseref03_Same.B16 = true := by kernel_rfl
set_option maxHeartbeats 8000000 in
set_option maxRecDepth 100000 in
theorem parcloseref03_Same.calls (k : Nat) (a0_0 : Int) (a0_1 : Int) (A0_2 : Option Addr) (c0_2 : Nat) (l0_2 : List (S77)) (A0_3 : Option Addr) (c0_3 : Nat) (l0_3 : List (S61)) (A0_4 : Option Addr) (c0_4 : Nat) (l0_4 : List (S78)) (a1_0 : Int) (a1_1 : Int) (A1_2 : Option Addr) (c1_2 : Nat) (l1_2 : List (S77)) (A1_3 : Option Addr) (c1_3 : Nat) (l1_3 : List (S61)) (A1_4 : Option Addr) (c1_4 : Nat) (l1_4 : List (S78)) (r : Bool) (w : World) (hr0_2 : Kd.C k77 w A0_2 l0_2.length l0_2) (hc0_2 : l0_2.length ≤ c0_2) (hr0_3 : Kd.C k61 w A0_3 l0_3.length l0_3) (hc0_3 : l0_3.length ≤ c0_3) (hr0_4 : Kd.C k78 w A0_4 l0_4.length l0_4) (hc0_4 : l0_4.length ≤ c0_4) (hr1_2 : Kd.C k77 w A1_2 l1_2.length l1_2) (hc1_2 : l1_2.length ≤ c1_2) (hr1_3 : Kd.C k61 w A1_3 l1_3.length l1_3) (hc1_3 : l1_3.length ≤ c1_3) (hr1_4 : Kd.C k78 w A1_4 l1_4.length l1_4) (hc1_4 : l1_4.length ≤ c1_4) (h : parcloseref03_Same.f k a0_0 a0_1 l0_2 l0_3 l0_4 a1_0 a1_1 l1_2 l1_3 l1_4 = some r) :
  Calls Try.prog 23 #[.agg #[.int .i64 a0_0, .int .i64 a0_1, .slice A0_2 l0_2.length c0_2, .slice A0_3 l0_3.length c0_3, .slice A0_4 l0_4.length c0_4], .agg #[.int .i64 a1_0, .int .i64 a1_1, .slice A1_2 l1_2.length c1_2, .slice A1_3 l1_3.length c1_3, .slice A1_4 l1_4.length c1_4]] w fun e w' => e = .returned (.bool r) ∧ Below w.heap.size w w' := by
 have hu26 := Try.underlying26
 have hu77 := Try.underlying77
 have hu61 := Try.underlying61
 have hu78 := Try.underlying78
 have HR0_2 := asd hr0_2
 have HC0_2 := asd hc0_2
 clear hr0_2 hc0_2
 have HR0_3 := asd hr0_3
 have HC0_3 := asd hc0_3
 clear hr0_3 hc0_3
 have HR0_4 := asd hr0_4
 have HC0_4 := asd hc0_4
 clear hr0_4 hc0_4
 have HR1_2 := asd hr1_2
 have HC1_2 := asd hc1_2
 clear hr1_2 hc1_2
 have HR1_3 := asd hr1_3
 have HC1_3 := asd hc1_3
 clear hr1_3 hc1_3
 have HR1_4 := asd hr1_4
 have HC1_4 := asd hc1_4
 clear hr1_4 hc1_4
 have HB := asd (Below.refl w.heap.size w)
 have H : (if a0_0 = a1_0 then (if a0_1 = a1_1 then (if (l0_2.length : Int) = (l1_2.length : Int) then (if (l0_3.length : Int) = (l1_3.length : Int) then (parcloseref03_Same.j0 k ((l0_4.length : Int) != (l1_4.length : Int)) a0_0 a0_1 l0_2 l0_3 l0_4 a1_0 a1_1 l1_2 l1_3 l1_4) else (parcloseref03_Same.j0 k true a0_0 a0_1 l0_2 l0_3 l0_4 a1_0 a1_1 l1_2 l1_3 l1_4)) else (parcloseref03_Same.j0 k true a0_0 a0_1 l0_2 l0_3 l0_4 a1_0 a1_1 l1_2 l1_3 l1_4)) else (parcloseref03_Same.j0 k true a0_0 a0_1 l0_2 l0_3 l0_4 a1_0 a1_1 l1_2 l1_3 l1_4)) else (parcloseref03_Same.j0 k true a0_0 a0_1 l0_2 l0_3 l0_4 a1_0 a1_1 l1_2 l1_3 l1_4)) = some r := h
 clear h
 have HC3 := asd H
 clear H
 go_enter Try.func23, Try.ntmps23
 go_upto_region 1 with (first | ((with_reducible refine gate_dst (N := 2) rfl ?_); (try (refine gate_guard (by rfl) ?_; dsimp only)); refine box_event ?hg (N := 2) ?hd (cs := #[.int .i64 a0_0, .int .i64 a0_1, .slice A0_2 l0_2.length c0_2, .slice A0_3 l0_3.length c0_3, .slice A0_4 l0_4.length c0_4]) (t := 26) ?hr ?_; (case hd => rfl); (case hg => rfl); (case hr => first | (go_simp; done) | (go_simp; rfl)); intro gb233 hg w4 hbox hb; have n0_ := asd (below_step (by repeat (first | (with_reducible first | exact HB.out | apply wa | apply wn | apply wd) | exact HB.out)) hb); have n1_ := asd (hbox); have n2_ := asd ((by rw [hg]; exact (below_size (by repeat (first | (with_reducible first | exact HB.out | apply wa | apply wn | apply wd) | exact HB.out))) : w.heap.size ≤ gb233)); have n3_ := asd ((by rw [hg]; exact (below_size (by repeat (first | (with_reducible first | exact HB.out | apply wa | apply wn | apply wd) | exact HB.out))) : w.heap.size ≤ gb233)); clear HB; have HB := n0_; have BK233 := n1_; have GW233 := n2_; have GE233 := n3_; clear n0_ n1_ n2_ n3_; clear hb hbox hg) | ((with_reducible refine gate_dst (N := 3) rfl ?_); (try (refine gate_guard (by rfl) ?_; dsimp only)); refine box_event ?hg (N := 3) ?hd (cs := #[.int .i64 a1_0, .int .i64 a1_1, .slice A1_2 l1_2.length c1_2, .slice A1_3 l1_3.length c1_3, .slice A1_4 l1_4.length c1_4]) (t := 26) ?hr ?_; (case hd => rfl); (case hg => rfl); (case hr => first | (go_simp; done) | (go_simp; rfl)); intro gb234 hg w5 hbox hb; have n0_ := asd (blk_below (g := gb233) (o := .cells #[.int .i64 a0_0, .int .i64 a0_1, .slice A0_2 l0_2.length c0_2, .slice A0_3 l0_3.length c0_3, .slice A0_4 l0_4.length c0_4] 26 (0, 0)) (by (with_reducible repeat first | apply bn | apply bd | apply ba); exact BK233.out) hb); have n1_ := asd (below_step (by repeat (first | (with_reducible first | exact HB.out | apply wa | apply wn | apply wd | refine ws ?_ GE233.out) | exact HB.out)) hb); have n2_ := asd (hbox); have n3_ := asd ((by rw [hg]; exact (below_size (by repeat (first | (with_reducible first | exact HB.out | apply wa | apply wn | apply wd | refine ws ?_ GE233.out) | exact HB.out))) : w.heap.size ≤ gb234)); have n4_ := asd ((by rw [hg]; exact (below_size (by repeat (first | (with_reducible first | exact HB.out | apply wa | apply wn | apply wd | refine ws ?_ GE233.out) | exact HB.out))) : w.heap.size ≤ gb234)); have n5_ := asd ((by rw [hg]; exact Nat.ne_of_lt (blk_lt (g := gb233) (o := .cells #[.int .i64 a0_0, .int .i64 a0_1, .slice A0_2 l0_2.length c0_2, .slice A0_3 l0_3.length c0_3, .slice A0_4 l0_4.length c0_4] 26 (0, 0)) (by (with_reducible repeat first | apply bn | apply bd | apply ba); exact BK233.out)) : gb233 ≠ gb234)); have n6_ := asd ((by rw [hg]; exact Nat.ne_of_gt (blk_lt (g := gb233) (o := .cells #[.int .i64 a0_0, .int .i64 a0_1, .slice A0_2 l0_2.length c0_2, .slice A0_3 l0_3.length c0_3, .slice A0_4 l0_4.length c0_4] 26 (0, 0)) (by (with_reducible repeat first | apply bn | apply bd | apply ba); exact BK233.out)) : gb234 ≠ gb233)); clear BK233; clear HB; have BK233 := n0_; have HB := n1_; have BK234 := n2_; have GW234 := n3_; have GE234 := n4_; have NB233_234 := n5_; have NB234_233 := n6_; clear n0_ n1_ n2_ n3_ n4_ n5_ n6_; clear hb hbox hg))
 (try simp only [Act.put, sB])
 go_cut [46] (fun v46 wc => ∃ (kq : Nat) (x46_2 : Bool), v46 = .bool x46_2 ∧ Aside0 (parcloseref03_Same.j0 kq x46_2 a0_0 a0_1 l0_2 l0_3 l0_4 a1_0 a1_1 l1_2 l1_3 l1_4 = some r) ∧ Aside0 (kq ≤ k) ∧ Aside0 (wc.heap[gb233]? = some (.cells #[.int .i64 a0_0, .int .i64 a0_1, (.slice A0_2 l0_2.length c0_2), (.slice A0_3 l0_3.length c0_3), (.slice A0_4 l0_4.length c0_4)] 26 (0, 0))) ∧ Aside0 (wc.heap[gb234]? = some (.cells #[.int .i64 a1_0, .int .i64 a1_1, (.slice A1_2 l1_2.length c1_2), (.slice A1_3 l1_3.length c1_3), (.slice A1_4 l1_4.length c1_4)] 26 (0, 0))) ∧ Aside0 (Below w.heap.size w wc))
 case first =>
  have H := HC3.out
  clear HC3
  by_cases c6 : a0_0 = a1_0
  ·rw [if_pos c6] at H
   have c6b0 : (a0_0 == a1_0) = true := beq_iff_eq.mpr c6
   have c6b1 : (a0_0 != a1_0) = false := bne_eq_false_iff_eq.mpr c6
   clear c6
   (first | rw [c6b0] | (simp only [i64_w, i32_w]; rw [c6b0]) | skip)
   by_cases c7 : a0_1 = a1_1
   ·rw [if_pos c7] at H
    have c7b0 : (a0_1 == a1_1) = true := beq_iff_eq.mpr c7
    have c7b1 : (a0_1 != a1_1) = false := bne_eq_false_iff_eq.mpr c7
    clear c7
    by_cases c8 : (l0_2.length : Int) = (l1_2.length : Int)
    ·rw [if_pos c8] at H
     have c8b0 : ((l0_2.length : Int) == (l1_2.length : Int)) = true := beq_iff_eq.mpr c8
     have c8b1 : ((l0_2.length : Int) != (l1_2.length : Int)) = false := bne_eq_false_iff_eq.mpr c8
     have c8b2 : (l0_2.length == l1_2.length) = true := by first | simpa using c8 | (simp at c8 ⊢; omega)
     clear c8
     by_cases c9 : (l0_3.length : Int) = (l1_3.length : Int)
     ·rw [if_pos c9] at H
      have c9b0 : ((l0_3.length : Int) == (l1_3.length : Int)) = true := beq_iff_eq.mpr c9
      have c9b1 : ((l0_3.length : Int) != (l1_3.length : Int)) = false := bne_eq_false_iff_eq.mpr c9
      have c9b2 : (l0_3.length == l1_3.length) = true := by first | simpa using c9 | (simp at c9 ⊢; omega)
      clear c9
      have H' := asd H
      clear H
      have hnb10 := NB233_234.out
      have hnc10 := NB234_233.out
      have hcz11_0 : w5.cell? ⟨gb233, 0, none⟩ = some (.int .i64 a0_0) := (blk_cell BK233.out 0).trans rfl
      have hcz11_1 : w5.cell? ⟨gb233, 1, none⟩ = some (.int .i64 a0_1) := (blk_cell BK233.out 1).trans rfl
      have hcz11_2 : w5.cell? ⟨gb233, 2, none⟩ = some (.slice A0_2 l0_2.length c0_2) := (blk_cell BK233.out 2).trans rfl
      have hcz11_3 : w5.cell? ⟨gb233, 3, none⟩ = some (.slice A0_3 l0_3.length c0_3) := (blk_cell BK233.out 3).trans rfl
      have hcz11_4 : w5.cell? ⟨gb233, 4, none⟩ = some (.slice A0_4 l0_4.length c0_4) := (blk_cell BK233.out 4).trans rfl
      have hfz11_0 := blk_frozen BK233.out 0
      have hfz11_1 := blk_frozen BK233.out 1
      have hfz11_2 := blk_frozen BK233.out 2
      have hfz11_3 := blk_frozen BK233.out 3
      have hfz11_4 := blk_frozen BK233.out 4
      have hcz12_0 : w5.cell? ⟨gb234, 0, none⟩ = some (.int .i64 a1_0) := (blk_cell BK234.out 0).trans rfl
      have hcz12_1 : w5.cell? ⟨gb234, 1, none⟩ = some (.int .i64 a1_1) := (blk_cell BK234.out 1).trans rfl
      have hcz12_2 : w5.cell? ⟨gb234, 2, none⟩ = some (.slice A1_2 l1_2.length c1_2) := (blk_cell BK234.out 2).trans rfl
      have hcz12_3 : w5.cell? ⟨gb234, 3, none⟩ = some (.slice A1_3 l1_3.length c1_3) := (blk_cell BK234.out 3).trans rfl
      have hcz12_4 : w5.cell? ⟨gb234, 4, none⟩ = some (.slice A1_4 l1_4.length c1_4) := (blk_cell BK234.out 4).trans rfl
      have hfz12_0 := blk_frozen BK234.out 0
      have hfz12_1 := blk_frozen BK234.out 1
      have hfz12_2 := blk_frozen BK234.out 2
      have hfz12_3 := blk_frozen BK234.out 3
      have hfz12_4 := blk_frozen BK234.out 4
      go_wp2
      go_meet
      case rel => exact ⟨_, (((l0_4.length : Int) != (l1_4.length : Int))), (by first | rfl | (simp; done) | (simp [*]; done)), H', ⟨by first | omega | exact Nat.le_refl _⟩, ⟨by (with_reducible repeat first | apply bn | apply bd | apply ba); exact BK233.out⟩, ⟨by (with_reducible repeat first | apply bn | apply bd | apply ba); exact BK234.out⟩, ⟨by repeat (first | (with_reducible first | exact HB.out | apply wa | apply wn | apply wd | refine ws ?_ GE233.out | refine ws ?_ GE234.out) | exact HB.out)⟩⟩
     ·rw [if_neg c9] at H
      have c9b0 : ((l0_3.length : Int) == (l1_3.length : Int)) = false := beq_eq_false_iff_ne.mpr c9
      have c9b1 : ((l0_3.length : Int) != (l1_3.length : Int)) = true := bne_iff_ne.mpr c9
      have c9b2 : (l0_3.length == l1_3.length) = false := by first | simpa using c9 | (simp at c9 ⊢; omega)
      have H' := asd H
      clear H
      have hnb13 := NB233_234.out
      have hnc13 := NB234_233.out
      have hcz14_0 : w5.cell? ⟨gb233, 0, none⟩ = some (.int .i64 a0_0) := (blk_cell BK233.out 0).trans rfl
      have hcz14_1 : w5.cell? ⟨gb233, 1, none⟩ = some (.int .i64 a0_1) := (blk_cell BK233.out 1).trans rfl
      have hcz14_2 : w5.cell? ⟨gb233, 2, none⟩ = some (.slice A0_2 l0_2.length c0_2) := (blk_cell BK233.out 2).trans rfl
      have hcz14_3 : w5.cell? ⟨gb233, 3, none⟩ = some (.slice A0_3 l0_3.length c0_3) := (blk_cell BK233.out 3).trans rfl
      have hcz14_4 : w5.cell? ⟨gb233, 4, none⟩ = some (.slice A0_4 l0_4.length c0_4) := (blk_cell BK233.out 4).trans rfl
      have hfz14_0 := blk_frozen BK233.out 0
      have hfz14_1 := blk_frozen BK233.out 1
      have hfz14_2 := blk_frozen BK233.out 2
      have hfz14_3 := blk_frozen BK233.out 3
      have hfz14_4 := blk_frozen BK233.out 4
      have hcz15_0 : w5.cell? ⟨gb234, 0, none⟩ = some (.int .i64 a1_0) := (blk_cell BK234.out 0).trans rfl
      have hcz15_1 : w5.cell? ⟨gb234, 1, none⟩ = some (.int .i64 a1_1) := (blk_cell BK234.out 1).trans rfl
      have hcz15_2 : w5.cell? ⟨gb234, 2, none⟩ = some (.slice A1_2 l1_2.length c1_2) := (blk_cell BK234.out 2).trans rfl
      have hcz15_3 : w5.cell? ⟨gb234, 3, none⟩ = some (.slice A1_3 l1_3.length c1_3) := (blk_cell BK234.out 3).trans rfl
      have hcz15_4 : w5.cell? ⟨gb234, 4, none⟩ = some (.slice A1_4 l1_4.length c1_4) := (blk_cell BK234.out 4).trans rfl
      have hfz15_0 := blk_frozen BK234.out 0
      have hfz15_1 := blk_frozen BK234.out 1
      have hfz15_2 := blk_frozen BK234.out 2
      have hfz15_3 := blk_frozen BK234.out 3
      have hfz15_4 := blk_frozen BK234.out 4
      go_wp2
      go_meet
      case rel => exact ⟨_, (true), (by first | rfl | (simp; done) | (simp [*]; done)), H', ⟨by first | omega | exact Nat.le_refl _⟩, ⟨by (with_reducible repeat first | apply bn | apply bd | apply ba); exact BK233.out⟩, ⟨by (with_reducible repeat first | apply bn | apply bd | apply ba); exact BK234.out⟩, ⟨by repeat (first | (with_reducible first | exact HB.out | apply wa | apply wn | apply wd | refine ws ?_ GE233.out | refine ws ?_ GE234.out) | exact HB.out)⟩⟩
    ·rw [if_neg c8] at H
     have c8b0 : ((l0_2.length : Int) == (l1_2.length : Int)) = false := beq_eq_false_iff_ne.mpr c8
     have c8b1 : ((l0_2.length : Int) != (l1_2.length : Int)) = true := bne_iff_ne.mpr c8
     have c8b2 : (l0_2.length == l1_2.length) = false := by first | simpa using c8 | (simp at c8 ⊢; omega)
     have H' := asd H
     clear H
     have hnb16 := NB233_234.out
     have hnc16 := NB234_233.out
     have hcz17_0 : w5.cell? ⟨gb233, 0, none⟩ = some (.int .i64 a0_0) := (blk_cell BK233.out 0).trans rfl
     have hcz17_1 : w5.cell? ⟨gb233, 1, none⟩ = some (.int .i64 a0_1) := (blk_cell BK233.out 1).trans rfl
     have hcz17_2 : w5.cell? ⟨gb233, 2, none⟩ = some (.slice A0_2 l0_2.length c0_2) := (blk_cell BK233.out 2).trans rfl
     have hcz17_3 : w5.cell? ⟨gb233, 3, none⟩ = some (.slice A0_3 l0_3.length c0_3) := (blk_cell BK233.out 3).trans rfl
     have hcz17_4 : w5.cell? ⟨gb233, 4, none⟩ = some (.slice A0_4 l0_4.length c0_4) := (blk_cell BK233.out 4).trans rfl
     have hfz17_0 := blk_frozen BK233.out 0
     have hfz17_1 := blk_frozen BK233.out 1
     have hfz17_2 := blk_frozen BK233.out 2
     have hfz17_3 := blk_frozen BK233.out 3
     have hfz17_4 := blk_frozen BK233.out 4
     have hcz18_0 : w5.cell? ⟨gb234, 0, none⟩ = some (.int .i64 a1_0) := (blk_cell BK234.out 0).trans rfl
     have hcz18_1 : w5.cell? ⟨gb234, 1, none⟩ = some (.int .i64 a1_1) := (blk_cell BK234.out 1).trans rfl
     have hcz18_2 : w5.cell? ⟨gb234, 2, none⟩ = some (.slice A1_2 l1_2.length c1_2) := (blk_cell BK234.out 2).trans rfl
     have hcz18_3 : w5.cell? ⟨gb234, 3, none⟩ = some (.slice A1_3 l1_3.length c1_3) := (blk_cell BK234.out 3).trans rfl
     have hcz18_4 : w5.cell? ⟨gb234, 4, none⟩ = some (.slice A1_4 l1_4.length c1_4) := (blk_cell BK234.out 4).trans rfl
     have hfz18_0 := blk_frozen BK234.out 0
     have hfz18_1 := blk_frozen BK234.out 1
     have hfz18_2 := blk_frozen BK234.out 2
     have hfz18_3 := blk_frozen BK234.out 3
     have hfz18_4 := blk_frozen BK234.out 4
     go_wp2
     go_meet
     case rel => exact ⟨_, (true), (by first | rfl | (simp; done) | (simp [*]; done)), H', ⟨by first | omega | exact Nat.le_refl _⟩, ⟨by (with_reducible repeat first | apply bn | apply bd | apply ba); exact BK233.out⟩, ⟨by (with_reducible repeat first | apply bn | apply bd | apply ba); exact BK234.out⟩, ⟨by repeat (first | (with_reducible first | exact HB.out | apply wa | apply wn | apply wd | refine ws ?_ GE233.out | refine ws ?_ GE234.out) | exact HB.out)⟩⟩
   ·rw [if_neg c7] at H
    have c7b0 : (a0_1 == a1_1) = false := beq_eq_false_iff_ne.mpr c7
    have c7b1 : (a0_1 != a1_1) = true := bne_iff_ne.mpr c7
    have H' := asd H
    clear H
    have hnb19 := NB233_234.out
    have hnc19 := NB234_233.out
    have hcz20_0 : w5.cell? ⟨gb233, 0, none⟩ = some (.int .i64 a0_0) := (blk_cell BK233.out 0).trans rfl
    have hcz20_1 : w5.cell? ⟨gb233, 1, none⟩ = some (.int .i64 a0_1) := (blk_cell BK233.out 1).trans rfl
    have hcz20_2 : w5.cell? ⟨gb233, 2, none⟩ = some (.slice A0_2 l0_2.length c0_2) := (blk_cell BK233.out 2).trans rfl
    have hcz20_3 : w5.cell? ⟨gb233, 3, none⟩ = some (.slice A0_3 l0_3.length c0_3) := (blk_cell BK233.out 3).trans rfl
    have hcz20_4 : w5.cell? ⟨gb233, 4, none⟩ = some (.slice A0_4 l0_4.length c0_4) := (blk_cell BK233.out 4).trans rfl
    have hfz20_0 := blk_frozen BK233.out 0
    have hfz20_1 := blk_frozen BK233.out 1
    have hfz20_2 := blk_frozen BK233.out 2
    have hfz20_3 := blk_frozen BK233.out 3
    have hfz20_4 := blk_frozen BK233.out 4
    have hcz21_0 : w5.cell? ⟨gb234, 0, none⟩ = some (.int .i64 a1_0) := (blk_cell BK234.out 0).trans rfl
    have hcz21_1 : w5.cell? ⟨gb234, 1, none⟩ = some (.int .i64 a1_1) := (blk_cell BK234.out 1).trans rfl
    have hcz21_2 : w5.cell? ⟨gb234, 2, none⟩ = some (.slice A1_2 l1_2.length c1_2) := (blk_cell BK234.out 2).trans rfl
    have hcz21_3 : w5.cell? ⟨gb234, 3, none⟩ = some (.slice A1_3 l1_3.length c1_3) := (blk_cell BK234.out 3).trans rfl
    have hcz21_4 : w5.cell? ⟨gb234, 4, none⟩ = some (.slice A1_4 l1_4.length c1_4) := (blk_cell BK234.out 4).trans rfl
    have hfz21_0 := blk_frozen BK234.out 0
    have hfz21_1 := blk_frozen BK234.out 1
    have hfz21_2 := blk_frozen BK234.out 2
    have hfz21_3 := blk_frozen BK234.out 3
    have hfz21_4 := blk_frozen BK234.out 4
    go_wp2
    go_meet
    case rel => exact ⟨_, (true), (by first | rfl | (simp; done) | (simp [*]; done)), H', ⟨by first | omega | exact Nat.le_refl _⟩, ⟨by (with_reducible repeat first | apply bn | apply bd | apply ba); exact BK233.out⟩, ⟨by (with_reducible repeat first | apply bn | apply bd | apply ba); exact BK234.out⟩, ⟨by repeat (first | (with_reducible first | exact HB.out | apply wa | apply wn | apply wd | refine ws ?_ GE233.out | refine ws ?_ GE234.out) | exact HB.out)⟩⟩
  ·rw [if_neg c6] at H
   have c6b0 : (a0_0 == a1_0) = false := beq_eq_false_iff_ne.mpr c6
   have c6b1 : (a0_0 != a1_0) = true := bne_iff_ne.mpr c6
   (first | rw [c6b0] | (simp only [i64_w, i32_w]; rw [c6b0]) | skip)
   have H' := asd H
   clear H
   have hnb22 := NB233_234.out
   have hnc22 := NB234_233.out
   have hcz23_0 : w5.cell? ⟨gb233, 0, none⟩ = some (.int .i64 a0_0) := (blk_cell BK233.out 0).trans rfl
   have hcz23_1 : w5.cell? ⟨gb233, 1, none⟩ = some (.int .i64 a0_1) := (blk_cell BK233.out 1).trans rfl
   have hcz23_2 : w5.cell? ⟨gb233, 2, none⟩ = some (.slice A0_2 l0_2.length c0_2) := (blk_cell BK233.out 2).trans rfl
   have hcz23_3 : w5.cell? ⟨gb233, 3, none⟩ = some (.slice A0_3 l0_3.length c0_3) := (blk_cell BK233.out 3).trans rfl
   have hcz23_4 : w5.cell? ⟨gb233, 4, none⟩ = some (.slice A0_4 l0_4.length c0_4) := (blk_cell BK233.out 4).trans rfl
   have hfz23_0 := blk_frozen BK233.out 0
   have hfz23_1 := blk_frozen BK233.out 1
   have hfz23_2 := blk_frozen BK233.out 2
   have hfz23_3 := blk_frozen BK233.out 3
   have hfz23_4 := blk_frozen BK233.out 4
   have hcz24_0 : w5.cell? ⟨gb234, 0, none⟩ = some (.int .i64 a1_0) := (blk_cell BK234.out 0).trans rfl
   have hcz24_1 : w5.cell? ⟨gb234, 1, none⟩ = some (.int .i64 a1_1) := (blk_cell BK234.out 1).trans rfl
   have hcz24_2 : w5.cell? ⟨gb234, 2, none⟩ = some (.slice A1_2 l1_2.length c1_2) := (blk_cell BK234.out 2).trans rfl
   have hcz24_3 : w5.cell? ⟨gb234, 3, none⟩ = some (.slice A1_3 l1_3.length c1_3) := (blk_cell BK234.out 3).trans rfl
   have hcz24_4 : w5.cell? ⟨gb234, 4, none⟩ = some (.slice A1_4 l1_4.length c1_4) := (blk_cell BK234.out 4).trans rfl
   have hfz24_0 := blk_frozen BK234.out 0
   have hfz24_1 := blk_frozen BK234.out 1
   have hfz24_2 := blk_frozen BK234.out 2
   have hfz24_3 := blk_frozen BK234.out 3
   have hfz24_4 := blk_frozen BK234.out 4
   go_wp2
   go_meet
   case rel => exact ⟨_, (true), (by first | rfl | (simp; done) | (simp [*]; done)), H', ⟨by first | omega | exact Nat.le_refl _⟩, ⟨by (with_reducible repeat first | apply bn | apply bd | apply ba); exact BK233.out⟩, ⟨by (with_reducible repeat first | apply bn | apply bd | apply ba); exact BK234.out⟩, ⟨by repeat (first | (with_reducible first | exact HB.out | apply wa | apply wn | apply wd | refine ws ?_ GE233.out | refine ws ?_ GE234.out) | exact HB.out)⟩⟩
 case rest =>
  clear HC3
  try clear c1
  try clear c2
  try clear p2
  try clear c6
  try clear c6b0
  try clear c6b1
  try clear c7
  try clear c7b0
  try clear c7b1
  try clear c8
  try clear c8b0
  try clear c8b1
  try clear c8b2
  try clear c9
  try clear c9b0
  try clear c9b1
  try clear c9b2
  try clear c10
  try clear c13
  try clear c16
  try clear c19
  try clear c22
  try clear c23
  try clear hcz11_0
  try clear hcz11_1
  try clear hcz11_2
  try clear hcz11_3
  try clear hcz11_4
  try clear hcz12_0
  try clear hcz12_1
  try clear hcz12_2
  try clear hcz12_3
  try clear hcz12_4
  try clear hcz14_0
  try clear hcz14_1
  try clear hcz14_2
  try clear hcz14_3
  try clear hcz14_4
  try clear hcz15_0
  try clear hcz15_1
  try clear hcz15_2
  try clear hcz15_3
  try clear hcz15_4
  try clear hcz17_0
  try clear hcz17_1
  try clear hcz17_2
  try clear hcz17_3
  try clear hcz17_4
  try clear hcz18_0
  try clear hcz18_1
  try clear hcz18_2
  try clear hcz18_3
  try clear hcz18_4
  try clear hcz20_0
  try clear hcz20_1
  try clear hcz20_2
  try clear hcz20_3
  try clear hcz20_4
  try clear hcz21_0
  try clear hcz21_1
  try clear hcz21_2
  try clear hcz21_3
  try clear hcz21_4
  try clear hcz23_0
  try clear hcz23_1
  try clear hcz23_2
  try clear hcz23_3
  try clear hcz23_4
  try clear hcz24_0
  try clear hcz24_1
  try clear hcz24_2
  try clear hcz24_3
  try clear hcz24_4
  try clear hfz11_0
  try clear hfz11_1
  try clear hfz11_2
  try clear hfz11_3
  try clear hfz11_4
  try clear hfz12_0
  try clear hfz12_1
  try clear hfz12_2
  try clear hfz12_3
  try clear hfz12_4
  try clear hfz14_0
  try clear hfz14_1
  try clear hfz14_2
  try clear hfz14_3
  try clear hfz14_4
  try clear hfz15_0
  try clear hfz15_1
  try clear hfz15_2
  try clear hfz15_3
  try clear hfz15_4
  try clear hfz17_0
  try clear hfz17_1
  try clear hfz17_2
  try clear hfz17_3
  try clear hfz17_4
  try clear hfz18_0
  try clear hfz18_1
  try clear hfz18_2
  try clear hfz18_3
  try clear hfz18_4
  try clear hfz20_0
  try clear hfz20_1
  try clear hfz20_2
  try clear hfz20_3
  try clear hfz20_4
  try clear hfz21_0
  try clear hfz21_1
  try clear hfz21_2
  try clear hfz21_3
  try clear hfz21_4
  try clear hfz23_0
  try clear hfz23_1
  try clear hfz23_2
  try clear hfz23_3
  try clear hfz23_4
  try clear hfz24_0
  try clear hfz24_1
  try clear hfz24_2
  try clear hfz24_3
  try clear hfz24_4
  obtain ⟨kq, x46_2, rfl, HA, HJ2, BK233, BK234, HB⟩ := hcut
  cases kq with
  | zero => exact absurd HA.out (by simp [parcloseref03_Same.j0])
  | succ kj2 =>
   have H := HA.out
   clear HA
   simp only [parcloseref03_Same.j0] at H
   by_cases c25 : x46_2 = true
   ·subst c25
    have H1 : (some false) = some r := by rw [if_pos rfl] at H; exact H
    clear H
    have H := H1
    clear H1
    obtain rfl := Option.some.inj H
    go_wp2
    go_ret
    exact ⟨by first | rfl | (simp [*] <;> rfl), by repeat (first | (with_reducible first | exact HB.out | apply wa | apply wn | apply wd | refine ws ?_ GE233.out | refine ws ?_ GE234.out) | exact HB.out)⟩
   ·replace c25 := Bool.eq_false_iff.mpr c25
    subst c25
    have H1 : (parcloseref03_Same.l0 kj2 0 a0_0 a0_1 l0_2 l0_3 l0_4 a1_0 a1_1 l1_2 l1_3 l1_4) = some r := by rw [if_neg (show ¬ (false = true) by decide)] at H; exact H
    clear H
    have H := H1
    clear H1
    have H' := asd H
    clear H
    go_wp2
    go_loopg [5] kj2 (fun kq v5 w' => ∃ (x5_2 : Int), v5 = .int .i64 x5_2 ∧ Aside0 (parcloseref03_Same.l0 kq x5_2 a0_0 a0_1 l0_2 l0_3 l0_4 a1_0 a1_1 l1_2 l1_3 l1_4 = some r) ∧ Aside0 (kq ≤ kj2) ∧ Aside0 (w'.heap[gb233]? = some (.cells #[.int .i64 a0_0, .int .i64 a0_1, (.slice A0_2 l0_2.length c0_2), (.slice A0_3 l0_3.length c0_3), (.slice A0_4 l0_4.length c0_4)] 26 (0, 0))) ∧ Aside0 (w'.heap[gb234]? = some (.cells #[.int .i64 a1_0, .int .i64 a1_1, (.slice A1_2 l1_2.length c1_2), (.slice A1_3 l1_3.length c1_3), (.slice A1_4 l1_4.length c1_4)] 26 (0, 0))) ∧ Aside0 (Below w.heap.size w w'))
    case atStart => exact ⟨(0), (by first | rfl | (simp; done) | (simp [*]; done)), H', ⟨Nat.le_refl _⟩, ⟨by (with_reducible repeat first | apply bn | apply bd | apply ba); exact BK233.out⟩, ⟨by (with_reducible repeat first | apply bn | apply bd | apply ba); exact BK234.out⟩, ⟨by repeat (first | (with_reducible first | exact HB.out | apply wa | apply wn | apply wd | refine ws ?_ GE233.out | refine ws ?_ GE234.out) | exact HB.out)⟩⟩
    case round =>
     clear H'
     try clear c1
     try clear c2
     try clear p2
     try clear c6
     try clear c6b0
     try clear c6b1
     try clear c7
     try clear c7b0
     try clear c7b1
     try clear c8
     try clear c8b0
     try clear c8b1
     try clear c8b2
     try clear c9
     try clear c9b0
     try clear c9b1
     try clear c9b2
     try clear c10
     try clear c13
     try clear c16
     try clear c19
     try clear c22
     try clear c23
     try clear c25
     try clear hcz11_0
     try clear hcz11_1
     try clear hcz11_2
     try clear hcz11_3
     try clear hcz11_4
     try clear hcz12_0
     try clear hcz12_1
     try clear hcz12_2
     try clear hcz12_3
     try clear hcz12_4
     try clear hcz14_0
     try clear hcz14_1
     try clear hcz14_2
     try clear hcz14_3
     try clear hcz14_4
     try clear hcz15_0
     try clear hcz15_1
     try clear hcz15_2
     try clear hcz15_3
     try clear hcz15_4
     try clear hcz17_0
     try clear hcz17_1
     try clear hcz17_2
     try clear hcz17_3
     try clear hcz17_4
     try clear hcz18_0
     try clear hcz18_1
     try clear hcz18_2
     try clear hcz18_3
     try clear hcz18_4
     try clear hcz20_0
     try clear hcz20_1
     try clear hcz20_2
     try clear hcz20_3
     try clear hcz20_4
     try clear hcz21_0
     try clear hcz21_1
     try clear hcz21_2
     try clear hcz21_3
     try clear hcz21_4
     try clear hcz23_0
     try clear hcz23_1
     try clear hcz23_2
     try clear hcz23_3
     try clear hcz23_4
     try clear hcz24_0
     try clear hcz24_1
     try clear hcz24_2
     try clear hcz24_3
     try clear hcz24_4
     try clear hfz11_0
     try clear hfz11_1
     try clear hfz11_2
     try clear hfz11_3
     try clear hfz11_4
     try clear hfz12_0
     try clear hfz12_1
     try clear hfz12_2
     try clear hfz12_3
     try clear hfz12_4
     try clear hfz14_0
     try clear hfz14_1
     try clear hfz14_2
     try clear hfz14_3
     try clear hfz14_4
     try clear hfz15_0
     try clear hfz15_1
     try clear hfz15_2
     try clear hfz15_3
     try clear hfz15_4
     try clear hfz17_0
     try clear hfz17_1
     try clear hfz17_2
     try clear hfz17_3
     try clear hfz17_4
     try clear hfz18_0
     try clear hfz18_1
     try clear hfz18_2
     try clear hfz18_3
     try clear hfz18_4
     try clear hfz20_0
     try clear hfz20_1
     try clear hfz20_2
     try clear hfz20_3
     try clear hfz20_4
     try clear hfz21_0
     try clear hfz21_1
     try clear hfz21_2
     try clear hfz21_3
     try clear hfz21_4
     try clear hfz23_0
     try clear hfz23_1
     try clear hfz23_2
     try clear hfz23_3
     try clear hfz23_4
     try clear hfz24_0
     try clear hfz24_1
     try clear hfz24_2
     try clear hfz24_3
     try clear hfz24_4
     try clear p2
     obtain ⟨x5_2, rfl, HA, HK2, BK233, BK234, HB⟩ := hrel
     cases gk with
     | zero => exact absurd HA.out (by simp [parcloseref03_Same.l0])
     | succ k2 =>
      have H := HA.out
      clear HA
      simp only [parcloseref03_Same.l0] at H
      by_cases c26 : x5_2 < (l0_2.length : Int)
      ·rw [if_pos c26] at H
       have c26b0 : decide (x5_2 < (l0_2.length : Int)) = true := decide_eq_true c26
       clear c26
       by_cases c27 : 0 ≤ x5_2
       ·rw [if_pos c27] at H
        have c27b0 : decide (0 ≤ x5_2) = true := decide_eq_true c27
        clear c27
        by_cases c28 : x5_2 < (l1_2.length : Int)
        ·rw [if_pos c28] at H
         have c28b0 : decide (x5_2 < (l1_2.length : Int)) = true := decide_eq_true c28
         clear c28
         by_cases c29 : (!(((rd_T77 l0_2 x5_2).f0) == ((rd_T77 l1_2 x5_2).f0)) || (!(((rd_T77 l0_2 x5_2).f1) == ((rd_T77 l1_2 x5_2).f1)) || (!(((rd_T77 l0_2 x5_2).f2) == ((rd_T77 l1_2 x5_2).f2))))) = true
         ·rw [if_pos c29] at H
          have c29b0 : (!(((rd_T77 l0_2 x5_2).f0) == ((rd_T77 l1_2 x5_2).f0)) || (!(((rd_T77 l0_2 x5_2).f1) == ((rd_T77 l1_2 x5_2).f1)) || (!(((rd_T77 l0_2 x5_2).f2) == ((rd_T77 l1_2 x5_2).f2))))) = true := c29
          clear c29
          obtain rfl := Option.some.inj H
          have hnb30 := NB233_234.out
          have hnc30 := NB234_233.out
          have hcz31_0 : wr.cell? ⟨gb233, 0, none⟩ = some (.int .i64 a0_0) := (blk_cell BK233.out 0).trans rfl
          have hcz31_1 : wr.cell? ⟨gb233, 1, none⟩ = some (.int .i64 a0_1) := (blk_cell BK233.out 1).trans rfl
          have hcz31_2 : wr.cell? ⟨gb233, 2, none⟩ = some (.slice A0_2 l0_2.length c0_2) := (blk_cell BK233.out 2).trans rfl
          have hcz31_3 : wr.cell? ⟨gb233, 3, none⟩ = some (.slice A0_3 l0_3.length c0_3) := (blk_cell BK233.out 3).trans rfl
          have hcz31_4 : wr.cell? ⟨gb233, 4, none⟩ = some (.slice A0_4 l0_4.length c0_4) := (blk_cell BK233.out 4).trans rfl
          have hfz31_0 := blk_frozen BK233.out 0
          have hfz31_1 := blk_frozen BK233.out 1
          have hfz31_2 := blk_frozen BK233.out 2
          have hfz31_3 := blk_frozen BK233.out 3
          have hfz31_4 := blk_frozen BK233.out 4
          try go_wp2
          have n0_ := asd (blk_drew BK233.out)
          have n1_ := asd (blk_drew BK234.out)
          have n2_ := asd (below_drew1 HB.out)
          clear BK233
          clear BK234
          clear HB
          have BK233 := n0_
          have BK234 := n1_
          have HB := n2_
          clear n0_ n1_ n2_
          have p235 : 0 ≤ (x5_2 : Int) := of_decide_eq_true (by assumption)
          have q235 : x5_2 < (l0_2.length : Int) := of_decide_eq_true (by assumption)
          obtain ⟨ad235, e235, hx235_0, hx235_1, hx235_2⟩ := at_T77 HR0_2.out x5_2 p235 q235
          have hw235_2 := hx235_2
          have hw235_1 := hx235_1
          have hw235_0 := hx235_0
          cases e235
          replace hx235_0 := (HB.out.cell (World.block_lt_of_cell? w _ hx235_0)).trans hx235_0
          replace hx235_1 := (HB.out.cell (World.block_lt_of_cell? w _ hx235_1)).trans hx235_1
          replace hx235_2 := (HB.out.cell (World.block_lt_of_cell? w _ hx235_2)).trans hx235_2
          replace p235 := eq_true p235
          replace q235 := eq_true q235
          have p236 : 0 ≤ (x5_2 : Int) := of_decide_eq_true (by assumption)
          have q236 : x5_2 < (l1_2.length : Int) := of_decide_eq_true (by assumption)
          obtain ⟨ad236, e236, hx236_0, hx236_1, hx236_2⟩ := at_T77 HR1_2.out x5_2 p236 q236
          have hw236_2 := hx236_2
          have hw236_1 := hx236_1
          have hw236_0 := hx236_0
          cases e236
          replace hx236_0 := (HB.out.cell (World.block_lt_of_cell? w _ hx236_0)).trans hx236_0
          replace hx236_1 := (HB.out.cell (World.block_lt_of_cell? w _ hx236_1)).trans hx236_1
          replace hx236_2 := (HB.out.cell (World.block_lt_of_cell? w _ hx236_2)).trans hx236_2
          replace p236 := eq_true p236
          replace q236 := eq_true q236
          refine start_ (n := 11) (S := fun w' => w'.cell? ⟨gb233, 0, none⟩ = some (.int .i64 a0_0) ∧ w'.cell? ⟨gb233, 1, none⟩ = some (.int .i64 a0_1) ∧ w'.cell? ⟨gb233, 2, none⟩ = some (.slice (some ad235) l0_2.length c0_2) ∧ w'.cell? ⟨gb233, 3, none⟩ = some (.slice A0_3 l0_3.length c0_3) ∧ w'.cell? ⟨gb233, 4, none⟩ = some (.slice A0_4 l0_4.length c0_4) ∧ w'.cell? ⟨gb234, 0, none⟩ = some (.int .i64 a1_0) ∧ w'.cell? ⟨gb234, 1, none⟩ = some (.int .i64 a1_1) ∧ w'.cell? ⟨gb234, 2, none⟩ = some (.slice (some ad236) l1_2.length c1_2) ∧ w'.cell? ⟨gb234, 3, none⟩ = some (.slice A1_3 l1_3.length c1_3) ∧ w'.cell? ⟨gb234, 4, none⟩ = some (.slice A1_4 l1_4.length c1_4) ∧ w'.cell? (ad235.add ((x5_2).toNat * 3)) = some (.int .i64 ((rd_T77 l0_2 x5_2).f0)) ∧ w'.cell? ⟨(ad235.add ((x5_2).toNat * 3)).block, (ad235.add ((x5_2).toNat * 3)).off + 1, none⟩ = some (.int .i64 ((rd_T77 l0_2 x5_2).f1)) ∧ w'.cell? ⟨(ad235.add ((x5_2).toNat * 3)).block, (ad235.add ((x5_2).toNat * 3)).off + 2, none⟩ = some (.int .i64 ((rd_T77 l0_2 x5_2).f2)) ∧ w'.cell? (ad236.add ((x5_2).toNat * 3)) = some (.int .i64 ((rd_T77 l1_2 x5_2).f0)) ∧ w'.cell? ⟨(ad236.add ((x5_2).toNat * 3)).block, (ad236.add ((x5_2).toNat * 3)).off + 1, none⟩ = some (.int .i64 ((rd_T77 l1_2 x5_2).f1)) ∧ w'.cell? ⟨(ad236.add ((x5_2).toNat * 3)).block, (ad236.add ((x5_2).toNat * 3)).off + 2, none⟩ = some (.int .i64 ((rd_T77 l1_2 x5_2).f2))) (ds := []) #[false, false, false, false, false, false, false, false, false, false, false] (by kernel_rfl) rfl rfl ⟨(blk_cell BK233.out 0).trans rfl, (blk_cell BK233.out 1).trans rfl, (blk_cell BK233.out 2).trans rfl, (blk_cell BK233.out 3).trans rfl, (blk_cell BK233.out 4).trans rfl, (blk_cell BK234.out 0).trans rfl, (blk_cell BK234.out 1).trans rfl, (blk_cell BK234.out 2).trans rfl, (blk_cell BK234.out 3).trans rfl, (blk_cell BK234.out 4).trans rfl, ((HB.out.cell (World.block_lt_of_cell? w _ hw235_0)).trans hw235_0), ((HB.out.cell (World.block_lt_of_cell? w _ hw235_1)).trans hw235_1), ((HB.out.cell (World.block_lt_of_cell? w _ hw235_2)).trans hw235_2), ((HB.out.cell (World.block_lt_of_cell? w _ hw236_0)).trans hw236_0), ((HB.out.cell (World.block_lt_of_cell? w _ hw236_1)).trans hw236_1), ((HB.out.cell (World.block_lt_of_cell? w _ hw236_2)).trans hw236_2)⟩ (fun hHeld => ?_); refine with_tabW parcloseref03_Same.tab6 parcloseref03_Same.bits6 (fun HT_ HW_ => ?_)
          generalize wr.drew = w32 at BK233 BK234 HB hx235_0 hx235_1 hx235_2 hx236_0 hx236_1 hx236_2 hHeld ⊢
          refine pure_ (i := 0) (N := some 54) (v := ?_) (a' := ?_) #[true, false, false, false, false, false, false, false, false, false, false] rfl rfl (any_of HT_.out (by kernel_rfl)) (fun _ _ _ h => h) (Or.inl ⟨by rfl, ?_⟩) ?_ ?_
          rotate_left
          ·intro w'
           go_simp
           with_reducible rfl
          rotate_left
          ·simp only [Act.put, sB, i64_w, i32_w]
           rfl
          refine pure_ (i := 2) (N := some 56) (v := ?_) (a' := ?_) #[true, false, true, false, false, false, false, false, false, false, false] rfl rfl (any_of HT_.out (by kernel_rfl)) (fun _ _ _ h => h) (Or.inl ⟨by rfl, ?_⟩) ?_ ?_
          rotate_left
          ·intro w'
           go_simp
           with_reducible rfl
          rotate_left
          ·simp only [Act.put, sB, i64_w, i32_w]
           rfl
          refine pure_ (i := 5) (N := some 59) (v := ?_) (a' := ?_) #[true, false, true, false, false, true, false, false, false, false, false] rfl rfl (any_of HT_.out (by kernel_rfl)) (fun _ _ _ h => h) (Or.inl ⟨by rfl, ?_⟩) ?_ ?_
          rotate_left
          ·intro w'
           go_simp
           with_reducible rfl
          rotate_left
          ·simp only [Act.put, sB, i64_w, i32_w]
           rfl
          refine pure_ (i := 7) (N := some 61) (v := ?_) (a' := ?_) #[true, false, true, false, false, true, false, true, false, false, false] rfl rfl (any_of HT_.out (by kernel_rfl)) (fun _ _ _ h => h) (Or.inl ⟨by rfl, ?_⟩) ?_ ?_
          rotate_left
          ·intro w'
           go_simp
           with_reducible rfl
          rotate_left
          ·simp only [Act.put, sB, i64_w, i32_w]
           rfl
          refine take_ (i := 1) (N := some 55) (v := ?_) (a' := ?_) #[true, true, true, false, false, true, false, true, false, false, false] rfl rfl (take_ofW HT_.out HW_.out (by kernel_rfl)) (fun _ _ _ h => h) (Or.inl ⟨by rfl, ?_⟩) hHeld ?_ ?_
          rotate_left
          ·rintro w' ⟨s0, s1, s2, s3, s4, s5, s6, s7, s8, s9, s10, s11, s12, s13, s14, s15⟩
           go_simp
           with_reducible rfl
          rotate_left
          ·simp only [Act.put, sB, i64_w, i32_w]
           rfl
          refine pure_ (i := 3) (N := some 57) (v := ?_) (a' := ?_) #[true, true, true, true, false, true, false, true, false, false, false] rfl rfl (any_of HT_.out (by kernel_rfl)) (fun _ _ _ h => h) (Or.inl ⟨by rfl, ?_⟩) ?_ ?_
          rotate_left
          ·intro w'
           go_simp
           with_reducible rfl
          rotate_left
          ·simp only [Act.put, sB, i64_w, i32_w]
           rfl
          refine take_ (i := 4) (N := some 58) (v := ?_) (a' := ?_) #[true, true, true, true, true, true, false, true, false, false, false] rfl rfl (take_ofW HT_.out HW_.out (by kernel_rfl)) (fun _ _ _ h => h) (Or.inl ⟨by rfl, ?_⟩) hHeld ?_ ?_
          rotate_left
          ·rintro w' ⟨s0, s1, s2, s3, s4, s5, s6, s7, s8, s9, s10, s11, s12, s13, s14, s15⟩
           go_simp
           with_reducible rfl
          rotate_left
          ·simp only [Act.put, sB, i64_w, i32_w]
           rfl
          refine take_ (i := 6) (N := some 60) (v := ?_) (a' := ?_) #[true, true, true, true, true, true, true, true, false, false, false] rfl rfl (take_ofW HT_.out HW_.out (by kernel_rfl)) (fun _ _ _ h => h) (Or.inl ⟨by rfl, ?_⟩) hHeld ?_ ?_
          rotate_left
          ·rintro w' ⟨s0, s1, s2, s3, s4, s5, s6, s7, s8, s9, s10, s11, s12, s13, s14, s15⟩
           go_simp
           with_reducible rfl
          rotate_left
          ·simp only [Act.put, sB, i64_w, i32_w]
           rfl
          refine pure_ (i := 8) (N := some 62) (v := ?_) (a' := ?_) #[true, true, true, true, true, true, true, true, true, false, false] rfl rfl (any_of HT_.out (by kernel_rfl)) (fun _ _ _ h => h) (Or.inl ⟨by rfl, ?_⟩) ?_ ?_
          rotate_left
          ·intro w'
           go_simp
           with_reducible rfl
          rotate_left
          ·simp only [Act.put, sB, i64_w, i32_w]
           rfl
          refine take_ (i := 9) (N := some 63) (v := ?_) (a' := ?_) #[true, true, true, true, true, true, true, true, true, true, false] rfl rfl (take_ofW HT_.out HW_.out (by kernel_rfl)) (fun _ _ _ h => h) (Or.inl ⟨by rfl, ?_⟩) hHeld ?_ ?_
          rotate_left
          ·rintro w' ⟨s0, s1, s2, s3, s4, s5, s6, s7, s8, s9, s10, s11, s12, s13, s14, s15⟩
           go_simp
           with_reducible rfl
          rotate_left
          ·simp only [Act.put, sB, i64_w, i32_w]
           rfl
          refine pure_ (i := 10) (N := some 64) (v := ?_) (a' := ?_) #[true, true, true, true, true, true, true, true, true, true, true] rfl rfl (any_of HT_.out (by kernel_rfl)) (fun _ _ _ h => h) (Or.inl ⟨by rfl, ?_⟩) ?_ ?_
          rotate_left
          ·intro w'
           go_simp
           with_reducible rfl
          rotate_left
          ·simp only [Act.put, sB, i64_w, i32_w]
           rfl
          refine done_ (done_of HT_.out (by kernel_rfl)) ?_
          try go_wp2
          go_ret
          exact ⟨by first | rfl | (simp [*] <;> rfl), by repeat (first | (with_reducible first | exact HB.out | apply wa | apply wn | apply wd | refine ws ?_ GE233.out | refine ws ?_ GE234.out) | exact HB.out)⟩
         ·rw [if_neg c29] at H
          have c29b0 : (!(((rd_T77 l0_2 x5_2).f0) == ((rd_T77 l1_2 x5_2).f0)) || (!(((rd_T77 l0_2 x5_2).f1) == ((rd_T77 l1_2 x5_2).f1)) || (!(((rd_T77 l0_2 x5_2).f2) == ((rd_T77 l1_2 x5_2).f2))))) = false := by simpa using c29
          clear c29
          have H' := asd H
          clear H
          have hnb33 := NB233_234.out
          have hnc33 := NB234_233.out
          have hcz34_0 : wr.cell? ⟨gb233, 0, none⟩ = some (.int .i64 a0_0) := (blk_cell BK233.out 0).trans rfl
          have hcz34_1 : wr.cell? ⟨gb233, 1, none⟩ = some (.int .i64 a0_1) := (blk_cell BK233.out 1).trans rfl
          have hcz34_2 : wr.cell? ⟨gb233, 2, none⟩ = some (.slice A0_2 l0_2.length c0_2) := (blk_cell BK233.out 2).trans rfl
          have hcz34_3 : wr.cell? ⟨gb233, 3, none⟩ = some (.slice A0_3 l0_3.length c0_3) := (blk_cell BK233.out 3).trans rfl
          have hcz34_4 : wr.cell? ⟨gb233, 4, none⟩ = some (.slice A0_4 l0_4.length c0_4) := (blk_cell BK233.out 4).trans rfl
          have hfz34_0 := blk_frozen BK233.out 0
          have hfz34_1 := blk_frozen BK233.out 1
          have hfz34_2 := blk_frozen BK233.out 2
          have hfz34_3 := blk_frozen BK233.out 3
          have hfz34_4 := blk_frozen BK233.out 4
          try go_wp2
          have n0_ := asd (blk_drew BK233.out)
          have n1_ := asd (blk_drew BK234.out)
          have n2_ := asd (below_drew1 HB.out)
          clear BK233
          clear BK234
          clear HB
          have BK233 := n0_
          have BK234 := n1_
          have HB := n2_
          clear n0_ n1_ n2_
          have p235 : 0 ≤ (x5_2 : Int) := of_decide_eq_true (by assumption)
          have q235 : x5_2 < (l0_2.length : Int) := of_decide_eq_true (by assumption)
          obtain ⟨ad235, e235, hx235_0, hx235_1, hx235_2⟩ := at_T77 HR0_2.out x5_2 p235 q235
          have hw235_2 := hx235_2
          have hw235_1 := hx235_1
          have hw235_0 := hx235_0
          cases e235
          replace hx235_0 := (HB.out.cell (World.block_lt_of_cell? w _ hx235_0)).trans hx235_0
          replace hx235_1 := (HB.out.cell (World.block_lt_of_cell? w _ hx235_1)).trans hx235_1
          replace hx235_2 := (HB.out.cell (World.block_lt_of_cell? w _ hx235_2)).trans hx235_2
          replace p235 := eq_true p235
          replace q235 := eq_true q235
          have p236 : 0 ≤ (x5_2 : Int) := of_decide_eq_true (by assumption)
          have q236 : x5_2 < (l1_2.length : Int) := of_decide_eq_true (by assumption)
          obtain ⟨ad236, e236, hx236_0, hx236_1, hx236_2⟩ := at_T77 HR1_2.out x5_2 p236 q236
          have hw236_2 := hx236_2
          have hw236_1 := hx236_1
          have hw236_0 := hx236_0
          cases e236
          replace hx236_0 := (HB.out.cell (World.block_lt_of_cell? w _ hx236_0)).trans hx236_0
          replace hx236_1 := (HB.out.cell (World.block_lt_of_cell? w _ hx236_1)).trans hx236_1
          replace hx236_2 := (HB.out.cell (World.block_lt_of_cell? w _ hx236_2)).trans hx236_2
          replace p236 := eq_true p236
          replace q236 := eq_true q236
          refine start_ (n := 11) (S := fun w' => w'.cell? ⟨gb233, 0, none⟩ = some (.int .i64 a0_0) ∧ w'.cell? ⟨gb233, 1, none⟩ = some (.int .i64 a0_1) ∧ w'.cell? ⟨gb233, 2, none⟩ = some (.slice (some ad235) l0_2.length c0_2) ∧ w'.cell? ⟨gb233, 3, none⟩ = some (.slice A0_3 l0_3.length c0_3) ∧ w'.cell? ⟨gb233, 4, none⟩ = some (.slice A0_4 l0_4.length c0_4) ∧ w'.cell? ⟨gb234, 0, none⟩ = some (.int .i64 a1_0) ∧ w'.cell? ⟨gb234, 1, none⟩ = some (.int .i64 a1_1) ∧ w'.cell? ⟨gb234, 2, none⟩ = some (.slice (some ad236) l1_2.length c1_2) ∧ w'.cell? ⟨gb234, 3, none⟩ = some (.slice A1_3 l1_3.length c1_3) ∧ w'.cell? ⟨gb234, 4, none⟩ = some (.slice A1_4 l1_4.length c1_4) ∧ w'.cell? (ad235.add ((x5_2).toNat * 3)) = some (.int .i64 ((rd_T77 l0_2 x5_2).f0)) ∧ w'.cell? ⟨(ad235.add ((x5_2).toNat * 3)).block, (ad235.add ((x5_2).toNat * 3)).off + 1, none⟩ = some (.int .i64 ((rd_T77 l0_2 x5_2).f1)) ∧ w'.cell? ⟨(ad235.add ((x5_2).toNat * 3)).block, (ad235.add ((x5_2).toNat * 3)).off + 2, none⟩ = some (.int .i64 ((rd_T77 l0_2 x5_2).f2)) ∧ w'.cell? (ad236.add ((x5_2).toNat * 3)) = some (.int .i64 ((rd_T77 l1_2 x5_2).f0)) ∧ w'.cell? ⟨(ad236.add ((x5_2).toNat * 3)).block, (ad236.add ((x5_2).toNat * 3)).off + 1, none⟩ = some (.int .i64 ((rd_T77 l1_2 x5_2).f1)) ∧ w'.cell? ⟨(ad236.add ((x5_2).toNat * 3)).block, (ad236.add ((x5_2).toNat * 3)).off + 2, none⟩ = some (.int .i64 ((rd_T77 l1_2 x5_2).f2))) (ds := []) #[false, false, false, false, false, false, false, false, false, false, false] (by kernel_rfl) rfl rfl ⟨(blk_cell BK233.out 0).trans rfl, (blk_cell BK233.out 1).trans rfl, (blk_cell BK233.out 2).trans rfl, (blk_cell BK233.out 3).trans rfl, (blk_cell BK233.out 4).trans rfl, (blk_cell BK234.out 0).trans rfl, (blk_cell BK234.out 1).trans rfl, (blk_cell BK234.out 2).trans rfl, (blk_cell BK234.out 3).trans rfl, (blk_cell BK234.out 4).trans rfl, ((HB.out.cell (World.block_lt_of_cell? w _ hw235_0)).trans hw235_0), ((HB.out.cell (World.block_lt_of_cell? w _ hw235_1)).trans hw235_1), ((HB.out.cell (World.block_lt_of_cell? w _ hw235_2)).trans hw235_2), ((HB.out.cell (World.block_lt_of_cell? w _ hw236_0)).trans hw236_0), ((HB.out.cell (World.block_lt_of_cell? w _ hw236_1)).trans hw236_1), ((HB.out.cell (World.block_lt_of_cell? w _ hw236_2)).trans hw236_2)⟩ (fun hHeld => ?_); refine with_tabW parcloseref03_Same.tab6 parcloseref03_Same.bits6 (fun HT_ HW_ => ?_)
          generalize wr.drew = w35 at BK233 BK234 HB hx235_0 hx235_1 hx235_2 hx236_0 hx236_1 hx236_2 hHeld ⊢
          refine pure_ (i := 0) (N := some 54) (v := ?_) (a' := ?_) #[true, false, false, false, false, false, false, false, false, false, false] rfl rfl (any_of HT_.out (by kernel_rfl)) (fun _ _ _ h => h) (Or.inl ⟨by rfl, ?_⟩) ?_ ?_
          rotate_left
          ·intro w'
           go_simp
           with_reducible rfl
          rotate_left
          ·simp only [Act.put, sB, i64_w, i32_w]
           rfl
          refine pure_ (i := 2) (N := some 56) (v := ?_) (a' := ?_) #[true, false, true, false, false, false, false, false, false, false, false] rfl rfl (any_of HT_.out (by kernel_rfl)) (fun _ _ _ h => h) (Or.inl ⟨by rfl, ?_⟩) ?_ ?_
          rotate_left
          ·intro w'
           go_simp
           with_reducible rfl
          rotate_left
          ·simp only [Act.put, sB, i64_w, i32_w]
           rfl
          refine pure_ (i := 5) (N := some 59) (v := ?_) (a' := ?_) #[true, false, true, false, false, true, false, false, false, false, false] rfl rfl (any_of HT_.out (by kernel_rfl)) (fun _ _ _ h => h) (Or.inl ⟨by rfl, ?_⟩) ?_ ?_
          rotate_left
          ·intro w'
           go_simp
           with_reducible rfl
          rotate_left
          ·simp only [Act.put, sB, i64_w, i32_w]
           rfl
          refine pure_ (i := 7) (N := some 61) (v := ?_) (a' := ?_) #[true, false, true, false, false, true, false, true, false, false, false] rfl rfl (any_of HT_.out (by kernel_rfl)) (fun _ _ _ h => h) (Or.inl ⟨by rfl, ?_⟩) ?_ ?_
          rotate_left
          ·intro w'
           go_simp
           with_reducible rfl
          rotate_left
          ·simp only [Act.put, sB, i64_w, i32_w]
           rfl
          refine take_ (i := 1) (N := some 55) (v := ?_) (a' := ?_) #[true, true, true, false, false, true, false, true, false, false, false] rfl rfl (take_ofW HT_.out HW_.out (by kernel_rfl)) (fun _ _ _ h => h) (Or.inl ⟨by rfl, ?_⟩) hHeld ?_ ?_
          rotate_left
          ·rintro w' ⟨s0, s1, s2, s3, s4, s5, s6, s7, s8, s9, s10, s11, s12, s13, s14, s15⟩
           go_simp
           with_reducible rfl
          rotate_left
          ·simp only [Act.put, sB, i64_w, i32_w]
           rfl
          refine pure_ (i := 3) (N := some 57) (v := ?_) (a' := ?_) #[true, true, true, true, false, true, false, true, false, false, false] rfl rfl (any_of HT_.out (by kernel_rfl)) (fun _ _ _ h => h) (Or.inl ⟨by rfl, ?_⟩) ?_ ?_
          rotate_left
          ·intro w'
           go_simp
           with_reducible rfl
          rotate_left
          ·simp only [Act.put, sB, i64_w, i32_w]
           rfl
          refine take_ (i := 4) (N := some 58) (v := ?_) (a' := ?_) #[true, true, true, true, true, true, false, true, false, false, false] rfl rfl (take_ofW HT_.out HW_.out (by kernel_rfl)) (fun _ _ _ h => h) (Or.inl ⟨by rfl, ?_⟩) hHeld ?_ ?_
          rotate_left
          ·rintro w' ⟨s0, s1, s2, s3, s4, s5, s6, s7, s8, s9, s10, s11, s12, s13, s14, s15⟩
           go_simp
           with_reducible rfl
          rotate_left
          ·simp only [Act.put, sB, i64_w, i32_w]
           rfl
          refine take_ (i := 6) (N := some 60) (v := ?_) (a' := ?_) #[true, true, true, true, true, true, true, true, false, false, false] rfl rfl (take_ofW HT_.out HW_.out (by kernel_rfl)) (fun _ _ _ h => h) (Or.inl ⟨by rfl, ?_⟩) hHeld ?_ ?_
          rotate_left
          ·rintro w' ⟨s0, s1, s2, s3, s4, s5, s6, s7, s8, s9, s10, s11, s12, s13, s14, s15⟩
           go_simp
           with_reducible rfl
          rotate_left
          ·simp only [Act.put, sB, i64_w, i32_w]
           rfl
          refine pure_ (i := 8) (N := some 62) (v := ?_) (a' := ?_) #[true, true, true, true, true, true, true, true, true, false, false] rfl rfl (any_of HT_.out (by kernel_rfl)) (fun _ _ _ h => h) (Or.inl ⟨by rfl, ?_⟩) ?_ ?_
          rotate_left
          ·intro w'
           go_simp
           with_reducible rfl
          rotate_left
          ·simp only [Act.put, sB, i64_w, i32_w]
           rfl
          refine take_ (i := 9) (N := some 63) (v := ?_) (a' := ?_) #[true, true, true, true, true, true, true, true, true, true, false] rfl rfl (take_ofW HT_.out HW_.out (by kernel_rfl)) (fun _ _ _ h => h) (Or.inl ⟨by rfl, ?_⟩) hHeld ?_ ?_
          rotate_left
          ·rintro w' ⟨s0, s1, s2, s3, s4, s5, s6, s7, s8, s9, s10, s11, s12, s13, s14, s15⟩
           go_simp
           with_reducible rfl
          rotate_left
          ·simp only [Act.put, sB, i64_w, i32_w]
           rfl
          refine pure_ (i := 10) (N := some 64) (v := ?_) (a' := ?_) #[true, true, true, true, true, true, true, true, true, true, true] rfl rfl (any_of HT_.out (by kernel_rfl)) (fun _ _ _ h => h) (Or.inl ⟨by rfl, ?_⟩) ?_ ?_
          rotate_left
          ·intro w'
           go_simp
           with_reducible rfl
          rotate_left
          ·simp only [Act.put, sB, i64_w, i32_w]
           rfl
          refine done_ (done_of HT_.out (by kernel_rfl)) ?_
          try go_wp2
          go_roundg k2
          case measure => have := HJ2.out; have := HK2.out; omega
          case rel => exact ⟨(wrap64 (x5_2 + 1)), (by first | rfl | (simp; done) | (simp [*]; done)), H', ⟨by have := HJ2.out; have := HK2.out; omega⟩, ⟨by (with_reducible repeat first | apply bn | apply bd | apply ba); exact BK233.out⟩, ⟨by (with_reducible repeat first | apply bn | apply bd | apply ba); exact BK234.out⟩, ⟨by repeat (first | (with_reducible first | exact HB.out | apply wa | apply wn | apply wd | refine ws ?_ GE233.out | refine ws ?_ GE234.out) | exact HB.out)⟩⟩
        ·rw [if_neg c28] at H
         exact absurd H (by simp)
       ·rw [if_neg c27] at H
        exact absurd H (by simp)
      ·rw [if_neg c26] at H
       have c26b0 : decide (x5_2 < (l0_2.length : Int)) = false := decide_eq_false c26
       clear c26
       have H' := asd H
       clear H
       have hnb36 := NB233_234.out
       have hnc36 := NB234_233.out
       have hcz37_0 : wr.cell? ⟨gb233, 0, none⟩ = some (.int .i64 a0_0) := (blk_cell BK233.out 0).trans rfl
       have hcz37_1 : wr.cell? ⟨gb233, 1, none⟩ = some (.int .i64 a0_1) := (blk_cell BK233.out 1).trans rfl
       have hcz37_2 : wr.cell? ⟨gb233, 2, none⟩ = some (.slice A0_2 l0_2.length c0_2) := (blk_cell BK233.out 2).trans rfl
       have hcz37_3 : wr.cell? ⟨gb233, 3, none⟩ = some (.slice A0_3 l0_3.length c0_3) := (blk_cell BK233.out 3).trans rfl
       have hcz37_4 : wr.cell? ⟨gb233, 4, none⟩ = some (.slice A0_4 l0_4.length c0_4) := (blk_cell BK233.out 4).trans rfl
       have hfz37_0 := blk_frozen BK233.out 0
       have hfz37_1 := blk_frozen BK233.out 1
       have hfz37_2 := blk_frozen BK233.out 2
       have hfz37_3 := blk_frozen BK233.out 3
       have hfz37_4 := blk_frozen BK233.out 4
       go_wp2
       go_loopg [6] k2 (fun kq v6 w' => ∃ (x6_3 : Int), v6 = .int .i64 x6_3 ∧ Aside0 (parcloseref03_Same.l1 kq x6_3 a0_0 a0_1 l0_2 l0_3 l0_4 a1_0 a1_1 l1_2 l1_3 l1_4 = some r) ∧ Aside0 (kq ≤ k2) ∧ Aside0 (w'.heap[gb233]? = some (.cells #[.int .i64 a0_0, .int .i64 a0_1, (.slice A0_2 l0_2.length c0_2), (.slice A0_3 l0_3.length c0_3), (.slice A0_4 l0_4.length c0_4)] 26 (0, 0))) ∧ Aside0 (w'.heap[gb234]? = some (.cells #[.int .i64 a1_0, .int .i64 a1_1, (.slice A1_2 l1_2.length c1_2), (.slice A1_3 l1_3.length c1_3), (.slice A1_4 l1_4.length c1_4)] 26 (0, 0))) ∧ Aside0 (Below w.heap.size w w'))
       case atStart => exact ⟨(0), (by first | rfl | (simp; done) | (simp [*]; done)), H', ⟨Nat.le_refl _⟩, ⟨by (with_reducible repeat first | apply bn | apply bd | apply ba); exact BK233.out⟩, ⟨by (with_reducible repeat first | apply bn | apply bd | apply ba); exact BK234.out⟩, ⟨by repeat (first | (with_reducible first | exact HB.out | apply wa | apply wn | apply wd | refine ws ?_ GE233.out | refine ws ?_ GE234.out) | exact HB.out)⟩⟩
       case round =>
        clear H'
        try clear c1
        try clear c2
        try clear p2
        try clear q2
        try clear hx2
        try clear c3
        try clear c6
        try clear c6b0
        try clear c6b1
        try clear p6
        try clear c7
        try clear c7b0
        try clear c7b1
        try clear c8
        try clear c8b0
        try clear c8b1
        try clear c8b2
        try clear c9
        try clear c9b0
        try clear c9b1
        try clear c9b2
        try clear c10
        try clear c13
        try clear c16
        try clear c19
        try clear c22
        try clear c23
        try clear p23
        try clear q23
        try clear hx23
        try clear c25
        try clear c26
        try clear c26b0
        try clear c27
        try clear c27b0
        try clear c28
        try clear c28b0
        try clear c29
        try clear c29b0
        try clear c30
        try clear c33
        try clear c36
        try clear hcz11_0
        try clear hcz11_1
        try clear hcz11_2
        try clear hcz11_3
        try clear hcz11_4
        try clear hcz12_0
        try clear hcz12_1
        try clear hcz12_2
        try clear hcz12_3
        try clear hcz12_4
        try clear hcz14_0
        try clear hcz14_1
        try clear hcz14_2
        try clear hcz14_3
        try clear hcz14_4
        try clear hcz15_0
        try clear hcz15_1
        try clear hcz15_2
        try clear hcz15_3
        try clear hcz15_4
        try clear hcz17_0
        try clear hcz17_1
        try clear hcz17_2
        try clear hcz17_3
        try clear hcz17_4
        try clear hcz18_0
        try clear hcz18_1
        try clear hcz18_2
        try clear hcz18_3
        try clear hcz18_4
        try clear hcz20_0
        try clear hcz20_1
        try clear hcz20_2
        try clear hcz20_3
        try clear hcz20_4
        try clear hcz21_0
        try clear hcz21_1
        try clear hcz21_2
        try clear hcz21_3
        try clear hcz21_4
        try clear hcz23_0
        try clear hcz23_1
        try clear hcz23_2
        try clear hcz23_3
        try clear hcz23_4
        try clear hcz24_0
        try clear hcz24_1
        try clear hcz24_2
        try clear hcz24_3
        try clear hcz24_4
        try clear hcz31_0
        try clear hcz31_1
        try clear hcz31_2
        try clear hcz31_3
        try clear hcz31_4
        try clear hcz34_0
        try clear hcz34_1
        try clear hcz34_2
        try clear hcz34_3
        try clear hcz34_4
        try clear hcz37_0
        try clear hcz37_1
        try clear hcz37_2
        try clear hcz37_3
        try clear hcz37_4
        try clear hfz11_0
        try clear hfz11_1
        try clear hfz11_2
        try clear hfz11_3
        try clear hfz11_4
        try clear hfz12_0
        try clear hfz12_1
        try clear hfz12_2
        try clear hfz12_3
        try clear hfz12_4
        try clear hfz14_0
        try clear hfz14_1
        try clear hfz14_2
        try clear hfz14_3
        try clear hfz14_4
        try clear hfz15_0
        try clear hfz15_1
        try clear hfz15_2
        try clear hfz15_3
        try clear hfz15_4
        try clear hfz17_0
        try clear hfz17_1
        try clear hfz17_2
        try clear hfz17_3
        try clear hfz17_4
        try clear hfz18_0
        try clear hfz18_1
        try clear hfz18_2
        try clear hfz18_3
        try clear hfz18_4
        try clear hfz20_0
        try clear hfz20_1
        try clear hfz20_2
        try clear hfz20_3
        try clear hfz20_4
        try clear hfz21_0
        try clear hfz21_1
        try clear hfz21_2
        try clear hfz21_3
        try clear hfz21_4
        try clear hfz23_0
        try clear hfz23_1
        try clear hfz23_2
        try clear hfz23_3
        try clear hfz23_4
        try clear hfz24_0
        try clear hfz24_1
        try clear hfz24_2
        try clear hfz24_3
        try clear hfz24_4
        try clear hfz31_0
        try clear hfz31_1
        try clear hfz31_2
        try clear hfz31_3
        try clear hfz31_4
        try clear hfz34_0
        try clear hfz34_1
        try clear hfz34_2
        try clear hfz34_3
        try clear hfz34_4
        try clear hfz37_0
        try clear hfz37_1
        try clear hfz37_2
        try clear hfz37_3
        try clear hfz37_4
        try clear hx235_0
        try clear hx235_1
        try clear hx235_2
        try clear hx236_0
        try clear hx236_1
        try clear hx236_2
        try clear p2
        try clear p235
        try clear p236
        try clear q235
        try clear q236
        obtain ⟨x6_3, rfl, HA, HK3, BK233, BK234, HB⟩ := hrel
        cases gk with
        | zero => exact absurd HA.out (by simp [parcloseref03_Same.l1])
        | succ k3 =>
         have H := HA.out
         clear HA
         simp only [parcloseref03_Same.l1] at H
         by_cases c38 : x6_3 < (l0_3.length : Int)
         ·rw [if_pos c38] at H
          have c38b0 : decide (x6_3 < (l0_3.length : Int)) = true := decide_eq_true c38
          clear c38
          by_cases c39 : 0 ≤ x6_3
          ·rw [if_pos c39] at H
           have c39b0 : decide (0 ≤ x6_3) = true := decide_eq_true c39
           clear c39
           by_cases c40 : x6_3 < (l1_3.length : Int)
           ·rw [if_pos c40] at H
            have c40b0 : decide (x6_3 < (l1_3.length : Int)) = true := decide_eq_true c40
            clear c40
            replace H := Option.bind_eq_some_iff.mp H
            obtain ⟨t239, A410, H⟩ := H
            replace H : (if t239 = true then (parcloseref03_Same.l1 k3 (wrap64 (x6_3 + 1)) a0_0 a0_1 l0_2 l0_3 l0_4 a1_0 a1_1 l1_2 l1_3 l1_4) else (some false)) = some r := H
            have A41 := asd A410
            clear A410
            by_cases c42 : t239 = true
            ·subst c42
             have H1 : (parcloseref03_Same.l1 k3 (wrap64 (x6_3 + 1)) a0_0 a0_1 l0_2 l0_3 l0_4 a1_0 a1_1 l1_2 l1_3 l1_4) = some r := by rw [if_pos rfl] at H; exact H
             clear H
             have H := H1
             clear H1
             have H' := asd H
             clear H
             have hnb43 := NB233_234.out
             have hnc43 := NB234_233.out
             have hcz44_0 : wr.cell? ⟨gb233, 0, none⟩ = some (.int .i64 a0_0) := (blk_cell BK233.out 0).trans rfl
             have hcz44_1 : wr.cell? ⟨gb233, 1, none⟩ = some (.int .i64 a0_1) := (blk_cell BK233.out 1).trans rfl
             have hcz44_2 : wr.cell? ⟨gb233, 2, none⟩ = some (.slice A0_2 l0_2.length c0_2) := (blk_cell BK233.out 2).trans rfl
             have hcz44_3 : wr.cell? ⟨gb233, 3, none⟩ = some (.slice A0_3 l0_3.length c0_3) := (blk_cell BK233.out 3).trans rfl
             have hcz44_4 : wr.cell? ⟨gb233, 4, none⟩ = some (.slice A0_4 l0_4.length c0_4) := (blk_cell BK233.out 4).trans rfl
             have hfz44_0 := blk_frozen BK233.out 0
             have hfz44_1 := blk_frozen BK233.out 1
             have hfz44_2 := blk_frozen BK233.out 2
             have hfz44_3 := blk_frozen BK233.out 3
             have hfz44_4 := blk_frozen BK233.out 4
             try go_wp2
             have n0_ := asd (blk_drew BK233.out)
             have n1_ := asd (blk_drew BK234.out)
             have n2_ := asd (below_drew1 HB.out)
             clear BK233
             clear BK234
             clear HB
             have BK233 := n0_
             have BK234 := n1_
             have HB := n2_
             clear n0_ n1_ n2_
             have p237 : 0 ≤ (x6_3 : Int) := of_decide_eq_true (by assumption)
             have q237 : x6_3 < (l0_3.length : Int) := of_decide_eq_true (by assumption)
             obtain ⟨ad237, A237_0, c237_0, A237_1, c237_1, A237_2, c237_2, e237, hx237_0, hx237_1, hx237_2, hx237_3, hx237_4, hx237_5, hl237_0, hi237_0, hl237_1, hi237_1, hl237_2, hi237_2⟩ := at_T61 HR0_3.out x6_3 p237 q237
             have hw237_5 := hx237_5
             have hw237_4 := hx237_4
             have hw237_3 := hx237_3
             have hw237_2 := hx237_2
             have hw237_1 := hx237_1
             have hw237_0 := hx237_0
             cases e237
             replace hx237_0 := (HB.out.cell (World.block_lt_of_cell? w _ hx237_0)).trans hx237_0
             replace hx237_1 := (HB.out.cell (World.block_lt_of_cell? w _ hx237_1)).trans hx237_1
             replace hx237_2 := (HB.out.cell (World.block_lt_of_cell? w _ hx237_2)).trans hx237_2
             replace hx237_3 := (HB.out.cell (World.block_lt_of_cell? w _ hx237_3)).trans hx237_3
             replace hx237_4 := (HB.out.cell (World.block_lt_of_cell? w _ hx237_4)).trans hx237_4
             replace hx237_5 := (HB.out.cell (World.block_lt_of_cell? w _ hx237_5)).trans hx237_5
             have HR237_0 := asd hi237_0
             have HC237_0 := asd hl237_0
             clear hi237_0 hl237_0
             have HR237_1 := asd hi237_1
             have HC237_1 := asd hl237_1
             clear hi237_1 hl237_1
             have HR237_2 := asd hi237_2
             have HC237_2 := asd hl237_2
             clear hi237_2 hl237_2
             replace p237 := eq_true p237
             replace q237 := eq_true q237
             have p238 : 0 ≤ (x6_3 : Int) := of_decide_eq_true (by assumption)
             have q238 : x6_3 < (l1_3.length : Int) := of_decide_eq_true (by assumption)
             obtain ⟨ad238, A238_0, c238_0, A238_1, c238_1, A238_2, c238_2, e238, hx238_0, hx238_1, hx238_2, hx238_3, hx238_4, hx238_5, hl238_0, hi238_0, hl238_1, hi238_1, hl238_2, hi238_2⟩ := at_T61 HR1_3.out x6_3 p238 q238
             have hw238_5 := hx238_5
             have hw238_4 := hx238_4
             have hw238_3 := hx238_3
             have hw238_2 := hx238_2
             have hw238_1 := hx238_1
             have hw238_0 := hx238_0
             cases e238
             replace hx238_0 := (HB.out.cell (World.block_lt_of_cell? w _ hx238_0)).trans hx238_0
             replace hx238_1 := (HB.out.cell (World.block_lt_of_cell? w _ hx238_1)).trans hx238_1
             replace hx238_2 := (HB.out.cell (World.block_lt_of_cell? w _ hx238_2)).trans hx238_2
             replace hx238_3 := (HB.out.cell (World.block_lt_of_cell? w _ hx238_3)).trans hx238_3
             replace hx238_4 := (HB.out.cell (World.block_lt_of_cell? w _ hx238_4)).trans hx238_4
             replace hx238_5 := (HB.out.cell (World.block_lt_of_cell? w _ hx238_5)).trans hx238_5
             have HR238_0 := asd hi238_0
             have HC238_0 := asd hl238_0
             clear hi238_0 hl238_0
             have HR238_1 := asd hi238_1
             have HC238_1 := asd hl238_1
             clear hi238_1 hl238_1
             have HR238_2 := asd hi238_2
             have HC238_2 := asd hl238_2
             clear hi238_2 hl238_2
             replace p238 := eq_true p238
             replace q238 := eq_true q238
             refine start_ (n := 12) (S := fun w' => w'.cell? ⟨gb233, 0, none⟩ = some (.int .i64 a0_0) ∧ w'.cell? ⟨gb233, 1, none⟩ = some (.int .i64 a0_1) ∧ w'.cell? ⟨gb233, 2, none⟩ = some (.slice A0_2 l0_2.length c0_2) ∧ w'.cell? ⟨gb233, 3, none⟩ = some (.slice (some ad237) l0_3.length c0_3) ∧ w'.cell? ⟨gb233, 4, none⟩ = some (.slice A0_4 l0_4.length c0_4) ∧ w'.cell? ⟨gb234, 0, none⟩ = some (.int .i64 a1_0) ∧ w'.cell? ⟨gb234, 1, none⟩ = some (.int .i64 a1_1) ∧ w'.cell? ⟨gb234, 2, none⟩ = some (.slice A1_2 l1_2.length c1_2) ∧ w'.cell? ⟨gb234, 3, none⟩ = some (.slice (some ad238) l1_3.length c1_3) ∧ w'.cell? ⟨gb234, 4, none⟩ = some (.slice A1_4 l1_4.length c1_4) ∧ w'.cell? (ad237.add ((x6_3).toNat * 6)) = some (.slice A237_0 ((rd_T61 l0_3 x6_3).f0).length c237_0) ∧ w'.cell? ⟨(ad237.add ((x6_3).toNat * 6)).block, (ad237.add ((x6_3).toNat * 6)).off + 1, none⟩ = some (.slice A237_1 ((rd_T61 l0_3 x6_3).f1).length c237_1) ∧ w'.cell? ⟨(ad237.add ((x6_3).toNat * 6)).block, (ad237.add ((x6_3).toNat * 6)).off + 2, none⟩ = some (.slice A237_2 ((rd_T61 l0_3 x6_3).f2).length c237_2) ∧ w'.cell? ⟨(ad237.add ((x6_3).toNat * 6)).block, (ad237.add ((x6_3).toNat * 6)).off + 3, none⟩ = some (.int .u8 ((rd_T61 l0_3 x6_3).f3.f0)) ∧ w'.cell? ⟨(ad237.add ((x6_3).toNat * 6)).block, (ad237.add ((x6_3).toNat * 6)).off + 4, none⟩ = some (.int .u8 ((rd_T61 l0_3 x6_3).f3.f1)) ∧ w'.cell? ⟨(ad237.add ((x6_3).toNat * 6)).block, (ad237.add ((x6_3).toNat * 6)).off + 5, none⟩ = some (.int .u8 ((rd_T61 l0_3 x6_3).f3.f2)) ∧ w'.cell? (ad238.add ((x6_3).toNat * 6)) = some (.slice A238_0 ((rd_T61 l1_3 x6_3).f0).length c238_0) ∧ w'.cell? ⟨(ad238.add ((x6_3).toNat * 6)).block, (ad238.add ((x6_3).toNat * 6)).off + 1, none⟩ = some (.slice A238_1 ((rd_T61 l1_3 x6_3).f1).length c238_1) ∧ w'.cell? ⟨(ad238.add ((x6_3).toNat * 6)).block, (ad238.add ((x6_3).toNat * 6)).off + 2, none⟩ = some (.slice A238_2 ((rd_T61 l1_3 x6_3).f2).length c238_2) ∧ w'.cell? ⟨(ad238.add ((x6_3).toNat * 6)).block, (ad238.add ((x6_3).toNat * 6)).off + 3, none⟩ = some (.int .u8 ((rd_T61 l1_3 x6_3).f3.f0)) ∧ w'.cell? ⟨(ad238.add ((x6_3).toNat * 6)).block, (ad238.add ((x6_3).toNat * 6)).off + 4, none⟩ = some (.int .u8 ((rd_T61 l1_3 x6_3).f3.f1)) ∧ w'.cell? ⟨(ad238.add ((x6_3).toNat * 6)).block, (ad238.add ((x6_3).toNat * 6)).off + 5, none⟩ = some (.int .u8 ((rd_T61 l1_3 x6_3).f3.f2))) (ds := []) #[false, false, false, false, false, false, false, false, false, false, false, false] (by kernel_rfl) rfl rfl ⟨(blk_cell BK233.out 0).trans rfl, (blk_cell BK233.out 1).trans rfl, (blk_cell BK233.out 2).trans rfl, (blk_cell BK233.out 3).trans rfl, (blk_cell BK233.out 4).trans rfl, (blk_cell BK234.out 0).trans rfl, (blk_cell BK234.out 1).trans rfl, (blk_cell BK234.out 2).trans rfl, (blk_cell BK234.out 3).trans rfl, (blk_cell BK234.out 4).trans rfl, ((HB.out.cell (World.block_lt_of_cell? w _ hw237_0)).trans hw237_0), ((HB.out.cell (World.block_lt_of_cell? w _ hw237_1)).trans hw237_1), ((HB.out.cell (World.block_lt_of_cell? w _ hw237_2)).trans hw237_2), ((HB.out.cell (World.block_lt_of_cell? w _ hw237_3)).trans hw237_3), ((HB.out.cell (World.block_lt_of_cell? w _ hw237_4)).trans hw237_4), ((HB.out.cell (World.block_lt_of_cell? w _ hw237_5)).trans hw237_5), ((HB.out.cell (World.block_lt_of_cell? w _ hw238_0)).trans hw238_0), ((HB.out.cell (World.block_lt_of_cell? w _ hw238_1)).trans hw238_1), ((HB.out.cell (World.block_lt_of_cell? w _ hw238_2)).trans hw238_2), ((HB.out.cell (World.block_lt_of_cell? w _ hw238_3)).trans hw238_3), ((HB.out.cell (World.block_lt_of_cell? w _ hw238_4)).trans hw238_4), ((HB.out.cell (World.block_lt_of_cell? w _ hw238_5)).trans hw238_5)⟩ (fun hHeld => ?_); refine with_tabW parcloseref03_Same.tab11 parcloseref03_Same.bits11 (fun HT_ HW_ => ?_)
             generalize wr.drew = w45 at BK233 BK234 HB HR237_0 HR237_1 HR237_2 HR238_0 HR238_1 HR238_2 hx237_0 hx237_1 hx237_2 hx237_3 hx237_4 hx237_5 hx238_0 hx238_1 hx238_2 hx238_3 hx238_4 hx238_5 hHeld ⊢
             refine pure_ (i := 0) (N := some 72) (v := ?_) (a' := ?_) #[true, false, false, false, false, false, false, false, false, false, false, false] rfl rfl (any_of HT_.out (by kernel_rfl)) (fun _ _ _ h => h) (Or.inl ⟨by rfl, ?_⟩) ?_ ?_
             rotate_left
             ·intro w'
              go_simp
              with_reducible rfl
             rotate_left
             ·simp only [Act.put, sB, i64_w, i32_w]
              rfl
             refine pure_ (i := 2) (N := some 74) (v := ?_) (a' := ?_) #[true, false, true, false, false, false, false, false, false, false, false, false] rfl rfl (any_of HT_.out (by kernel_rfl)) (fun _ _ _ h => h) (Or.inl ⟨by rfl, ?_⟩) ?_ ?_
             rotate_left
             ·intro w'
              go_simp
              with_reducible rfl
             rotate_left
             ·simp only [Act.put, sB, i64_w, i32_w]
              rfl
             refine pure_ (i := 5) (N := some 77) (v := ?_) (a' := ?_) #[true, false, true, false, false, true, false, false, false, false, false, false] rfl rfl (any_of HT_.out (by kernel_rfl)) (fun _ _ _ h => h) (Or.inl ⟨by rfl, ?_⟩) ?_ ?_
             rotate_left
             ·intro w'
              go_simp
              with_reducible rfl
             rotate_left
             ·simp only [Act.put, sB, i64_w, i32_w]
              rfl
             refine pure_ (i := 7) (N := some 79) (v := ?_) (a' := ?_) #[true, false, true, false, false, true, false, true, false, false, false, false] rfl rfl (any_of HT_.out (by kernel_rfl)) (fun _ _ _ h => h) (Or.inl ⟨by rfl, ?_⟩) ?_ ?_
             rotate_left
             ·intro w'
              go_simp
              with_reducible rfl
             rotate_left
             ·simp only [Act.put, sB, i64_w, i32_w]
              rfl
             refine take_ (i := 1) (N := some 73) (v := ?_) (a' := ?_) #[true, true, true, false, false, true, false, true, false, false, false, false] rfl rfl (take_ofW HT_.out HW_.out (by kernel_rfl)) (fun _ _ _ h => h) (Or.inl ⟨by rfl, ?_⟩) hHeld ?_ ?_
             rotate_left
             ·rintro w' ⟨s0, s1, s2, s3, s4, s5, s6, s7, s8, s9, s10, s11, s12, s13, s14, s15, s16, s17, s18, s19, s20, s21⟩
              go_simp
              with_reducible rfl
             rotate_left
             ·simp only [Act.put, sB, i64_w, i32_w]
              rfl
             refine pure_ (i := 3) (N := some 75) (v := ?_) (a' := ?_) #[true, true, true, true, false, true, false, true, false, false, false, false] rfl rfl (any_of HT_.out (by kernel_rfl)) (fun _ _ _ h => h) (Or.inl ⟨by rfl, ?_⟩) ?_ ?_
             rotate_left
             ·intro w'
              go_simp
              with_reducible rfl
             rotate_left
             ·simp only [Act.put, sB, i64_w, i32_w]
              rfl
             refine take_ (i := 4) (N := some 76) (v := ?_) (a' := ?_) #[true, true, true, true, true, true, false, true, false, false, false, false] rfl rfl (take_ofW HT_.out HW_.out (by kernel_rfl)) (fun _ _ _ h => h) (Or.inl ⟨by rfl, ?_⟩) hHeld ?_ ?_
             rotate_left
             ·rintro w' ⟨s0, s1, s2, s3, s4, s5, s6, s7, s8, s9, s10, s11, s12, s13, s14, s15, s16, s17, s18, s19, s20, s21⟩
              go_simp
              with_reducible rfl
             rotate_left
             ·simp only [Act.put, sB, i64_w, i32_w]
              rfl
             refine take_ (i := 6) (N := some 78) (v := ?_) (a' := ?_) #[true, true, true, true, true, true, true, true, false, false, false, false] rfl rfl (take_ofW HT_.out HW_.out (by kernel_rfl)) (fun _ _ _ h => h) (Or.inl ⟨by rfl, ?_⟩) hHeld ?_ ?_
             rotate_left
             ·rintro w' ⟨s0, s1, s2, s3, s4, s5, s6, s7, s8, s9, s10, s11, s12, s13, s14, s15, s16, s17, s18, s19, s20, s21⟩
              go_simp
              with_reducible rfl
             rotate_left
             ·simp only [Act.put, sB, i64_w, i32_w]
              rfl
             refine pure_ (i := 8) (N := some 80) (v := ?_) (a' := ?_) #[true, true, true, true, true, true, true, true, true, false, false, false] rfl rfl (any_of HT_.out (by kernel_rfl)) (fun _ _ _ h => h) (Or.inl ⟨by rfl, ?_⟩) ?_ ?_
             rotate_left
             ·intro w'
              go_simp
              with_reducible rfl
             rotate_left
             ·simp only [Act.put, sB, i64_w, i32_w]
              rfl
             refine take_ (i := 9) (N := some 81) (v := ?_) (a' := ?_) #[true, true, true, true, true, true, true, true, true, true, false, false] rfl rfl (take_ofW HT_.out HW_.out (by kernel_rfl)) (fun _ _ _ h => h) (Or.inl ⟨by rfl, ?_⟩) hHeld ?_ ?_
             rotate_left
             ·rintro w' ⟨s0, s1, s2, s3, s4, s5, s6, s7, s8, s9, s10, s11, s12, s13, s14, s15, s16, s17, s18, s19, s20, s21⟩
              go_simp
              with_reducible rfl
             rotate_left
             ·simp only [Act.put, sB, i64_w, i32_w]
              rfl
             refine one_ (i := 10) (N := some 82) #[true, true, true, true, true, true, true, true, true, true, true, false] rfl rfl (one_of HT_.out (by kernel_rfl)) (by decide) (fun K hK => ?_)
             refine goes_ Try.func55 (by kernel_rfl) rfl #[.agg #[.slice A237_0 ((rd_T61 l0_3 x6_3).f0).length c237_0, .slice A237_1 ((rd_T61 l0_3 x6_3).f1).length c237_1, .slice A237_2 ((rd_T61 l0_3 x6_3).f2).length c237_2, .int .u8 ((rd_T61 l0_3 x6_3).f3.f0), .int .u8 ((rd_T61 l0_3 x6_3).f3.f1), .int .u8 ((rd_T61 l0_3 x6_3).f3.f2)], .agg #[.slice A238_0 ((rd_T61 l1_3 x6_3).f0).length c238_0, .slice A238_1 ((rd_T61 l1_3 x6_3).f1).length c238_1, .slice A238_2 ((rd_T61 l1_3 x6_3).f2).length c238_2, .int .u8 ((rd_T61 l1_3 x6_3).f3.f0), .int .u8 ((rd_T61 l1_3 x6_3).f3.f1), .int .u8 ((rd_T61 l1_3 x6_3).f3.f2)]] (by rfl) rfl rfl (by (try simp only [List.map_toArray, List.map_cons, List.map_nil]); first | done | rfl | (simp only [List.length_drop, List.length_take]; rfl)) ?_
             with_reducible refine (parcloseref03_samePart.calls k3 _ _ ((rd_T61 l0_3 x6_3).f0) _ _ ((rd_T61 l0_3 x6_3).f1) _ _ ((rd_T61 l0_3 x6_3).f2) ((rd_T61 l0_3 x6_3).f3.f0) ((rd_T61 l0_3 x6_3).f3.f1) ((rd_T61 l0_3 x6_3).f3.f2) _ _ ((rd_T61 l1_3 x6_3).f0) _ _ ((rd_T61 l1_3 x6_3).f1) _ _ ((rd_T61 l1_3 x6_3).f2) ((rd_T61 l1_3 x6_3).f3.f0) ((rd_T61 l1_3 x6_3).f3.f1) ((rd_T61 l1_3 x6_3).f3.f2) true _ ?side1 ?side2 ?side3 ?side4 ?side5 ?side6 ?side7 ?side8 ?side9 ?side10 ?side11 ?side12 A41.out).mono ?_
             (case side1 => repeat (first | exact (Kd.C_below HR237_0.out HB.out) | (with_reducible refine Kd.C_alloc ?_ _) | (with_reducible refine Kd.C_drewN ?_ _) | (with_reducible refine Kd.C_drew ?_)))
             (case side2 => exact HC237_0.out)
             (case side3 => repeat (first | exact (Kd.C_below HR237_1.out HB.out) | (with_reducible refine Kd.C_alloc ?_ _) | (with_reducible refine Kd.C_drewN ?_ _) | (with_reducible refine Kd.C_drew ?_)))
             (case side4 => exact HC237_1.out)
             (case side5 => repeat (first | exact (Kd.C_below HR237_2.out HB.out) | (with_reducible refine Kd.C_alloc ?_ _) | (with_reducible refine Kd.C_drewN ?_ _) | (with_reducible refine Kd.C_drew ?_)))
             (case side6 => exact HC237_2.out)
             (case side7 => repeat (first | exact (Kd.C_below HR238_0.out HB.out) | (with_reducible refine Kd.C_alloc ?_ _) | (with_reducible refine Kd.C_drewN ?_ _) | (with_reducible refine Kd.C_drew ?_)))
             (case side8 => exact HC238_0.out)
             (case side9 => repeat (first | exact (Kd.C_below HR238_1.out HB.out) | (with_reducible refine Kd.C_alloc ?_ _) | (with_reducible refine Kd.C_drewN ?_ _) | (with_reducible refine Kd.C_drew ?_)))
             (case side10 => exact HC238_1.out)
             (case side11 => repeat (first | exact (Kd.C_below HR238_2.out HB.out) | (with_reducible refine Kd.C_alloc ?_ _) | (with_reducible refine Kd.C_drewN ?_ _) | (with_reducible refine Kd.C_drew ?_)))
             (case side12 => exact HC238_2.out)
             rintro e w46 ⟨rfl, hb⟩
             refine ⟨_, rfl, ?_⟩
             have n0_ := asd (blk_below (g := gb233) (o := .cells #[.int .i64 a0_0, .int .i64 a0_1, .slice A0_2 l0_2.length c0_2, .slice (some ad237) l0_3.length c0_3, .slice A0_4 l0_4.length c0_4] 26 (0, 0)) (by (with_reducible repeat first | apply bn | apply bd | apply ba); exact BK233.out) hb)
             have n1_ := asd (blk_below (g := gb234) (o := .cells #[.int .i64 a1_0, .int .i64 a1_1, .slice A1_2 l1_2.length c1_2, .slice (some ad238) l1_3.length c1_3, .slice A1_4 l1_4.length c1_4] 26 (0, 0)) (by (with_reducible repeat first | apply bn | apply bd | apply ba); exact BK234.out) hb)
             have n2_ := asd (below_step (by repeat (first | (with_reducible first | exact HB.out | apply wa | apply wn | apply wd | refine ws ?_ GE233.out | refine ws ?_ GE234.out) | exact HB.out)) hb)
             clear BK233
             clear BK234
             clear HB
             have BK233 := n0_
             have BK234 := n1_
             have HB := n2_
             clear n0_ n1_ n2_
             (try clear hb)
             (try clear hb2)
             (try clear hk)
             (try clear hi)
             refine hK.out _ _ ⟨(blk_cell BK233.out 0).trans rfl, (blk_cell BK233.out 1).trans rfl, (blk_cell BK233.out 2).trans rfl, (blk_cell BK233.out 3).trans rfl, (blk_cell BK233.out 4).trans rfl, (blk_cell BK234.out 0).trans rfl, (blk_cell BK234.out 1).trans rfl, (blk_cell BK234.out 2).trans rfl, (blk_cell BK234.out 3).trans rfl, (blk_cell BK234.out 4).trans rfl, ((HB.out.cell (World.block_lt_of_cell? w _ hw237_0)).trans hw237_0), ((HB.out.cell (World.block_lt_of_cell? w _ hw237_1)).trans hw237_1), ((HB.out.cell (World.block_lt_of_cell? w _ hw237_2)).trans hw237_2), ((HB.out.cell (World.block_lt_of_cell? w _ hw237_3)).trans hw237_3), ((HB.out.cell (World.block_lt_of_cell? w _ hw237_4)).trans hw237_4), ((HB.out.cell (World.block_lt_of_cell? w _ hw237_5)).trans hw237_5), ((HB.out.cell (World.block_lt_of_cell? w _ hw238_0)).trans hw238_0), ((HB.out.cell (World.block_lt_of_cell? w _ hw238_1)).trans hw238_1), ((HB.out.cell (World.block_lt_of_cell? w _ hw238_2)).trans hw238_2), ((HB.out.cell (World.block_lt_of_cell? w _ hw238_3)).trans hw238_3), ((HB.out.cell (World.block_lt_of_cell? w _ hw238_4)).trans hw238_4), ((HB.out.cell (World.block_lt_of_cell? w _ hw238_5)).trans hw238_5)⟩ (fun hHeld => ?_)
             clear hK K
             refine norm_ (a' := ?_) ?_ ?_
             rotate_left
             ·show Act.put _ (some 82) _ = _
              simp only [Act.put, sB, i64_w, i32_w]
              rfl
             refine pure_ (i := 11) (N := some 83) (v := ?_) (a' := ?_) #[true, true, true, true, true, true, true, true, true, true, true, true] rfl rfl (any_of HT_.out (by kernel_rfl)) (fun _ _ _ h => h) (Or.inl ⟨by rfl, ?_⟩) ?_ ?_
             rotate_left
             ·intro w'
              go_simp
              with_reducible rfl
             rotate_left
             ·simp only [Act.put, sB, i64_w, i32_w]
              rfl
             refine done_ (done_of HT_.out (by kernel_rfl)) ?_
             try go_wp2
             go_roundg k3
             case measure => have := HJ2.out; have := HK2.out; have := HK3.out; omega
             case rel => exact ⟨(wrap64 (x6_3 + 1)), (by first | rfl | (simp; done) | (simp [*]; done)), H', ⟨by have := HJ2.out; have := HK2.out; have := HK3.out; omega⟩, ⟨by (with_reducible repeat first | apply bn | apply bd | apply ba); exact BK233.out⟩, ⟨by (with_reducible repeat first | apply bn | apply bd | apply ba); exact BK234.out⟩, ⟨by repeat (first | (with_reducible first | exact HB.out | apply wa | apply wn | apply wd | refine ws ?_ GE233.out | refine ws ?_ GE234.out) | exact HB.out)⟩⟩
            ·replace c42 := Bool.eq_false_iff.mpr c42
             subst c42
             have H1 : (some false) = some r := by rw [if_neg (show ¬ (false = true) by decide)] at H; exact H
             clear H
             have H := H1
             clear H1
             obtain rfl := Option.some.inj H
             have hnb47 := NB233_234.out
             have hnc47 := NB234_233.out
             have hcz48_0 : wr.cell? ⟨gb233, 0, none⟩ = some (.int .i64 a0_0) := (blk_cell BK233.out 0).trans rfl
             have hcz48_1 : wr.cell? ⟨gb233, 1, none⟩ = some (.int .i64 a0_1) := (blk_cell BK233.out 1).trans rfl
             have hcz48_2 : wr.cell? ⟨gb233, 2, none⟩ = some (.slice A0_2 l0_2.length c0_2) := (blk_cell BK233.out 2).trans rfl
             have hcz48_3 : wr.cell? ⟨gb233, 3, none⟩ = some (.slice A0_3 l0_3.length c0_3) := (blk_cell BK233.out 3).trans rfl
             have hcz48_4 : wr.cell? ⟨gb233, 4, none⟩ = some (.slice A0_4 l0_4.length c0_4) := (blk_cell BK233.out 4).trans rfl
             have hfz48_0 := blk_frozen BK233.out 0
             have hfz48_1 := blk_frozen BK233.out 1
             have hfz48_2 := blk_frozen BK233.out 2
             have hfz48_3 := blk_frozen BK233.out 3
             have hfz48_4 := blk_frozen BK233.out 4
             try go_wp2
             have n0_ := asd (blk_drew BK233.out)
             have n1_ := asd (blk_drew BK234.out)
             have n2_ := asd (below_drew1 HB.out)
             clear BK233
             clear BK234
             clear HB
             have BK233 := n0_
             have BK234 := n1_
             have HB := n2_
             clear n0_ n1_ n2_
             have p237 : 0 ≤ (x6_3 : Int) := of_decide_eq_true (by assumption)
             have q237 : x6_3 < (l0_3.length : Int) := of_decide_eq_true (by assumption)
             obtain ⟨ad237, A237_0, c237_0, A237_1, c237_1, A237_2, c237_2, e237, hx237_0, hx237_1, hx237_2, hx237_3, hx237_4, hx237_5, hl237_0, hi237_0, hl237_1, hi237_1, hl237_2, hi237_2⟩ := at_T61 HR0_3.out x6_3 p237 q237
             have hw237_5 := hx237_5
             have hw237_4 := hx237_4
             have hw237_3 := hx237_3
             have hw237_2 := hx237_2
             have hw237_1 := hx237_1
             have hw237_0 := hx237_0
             cases e237
             replace hx237_0 := (HB.out.cell (World.block_lt_of_cell? w _ hx237_0)).trans hx237_0
             replace hx237_1 := (HB.out.cell (World.block_lt_of_cell? w _ hx237_1)).trans hx237_1
             replace hx237_2 := (HB.out.cell (World.block_lt_of_cell? w _ hx237_2)).trans hx237_2
             replace hx237_3 := (HB.out.cell (World.block_lt_of_cell? w _ hx237_3)).trans hx237_3
             replace hx237_4 := (HB.out.cell (World.block_lt_of_cell? w _ hx237_4)).trans hx237_4
             replace hx237_5 := (HB.out.cell (World.block_lt_of_cell? w _ hx237_5)).trans hx237_5
             have HR237_0 := asd hi237_0
             have HC237_0 := asd hl237_0
             clear hi237_0 hl237_0
             have HR237_1 := asd hi237_1
             have HC237_1 := asd hl237_1
             clear hi237_1 hl237_1
             have HR237_2 := asd hi237_2
             have HC237_2 := asd hl237_2
             clear hi237_2 hl237_2
             replace p237 := eq_true p237
             replace q237 := eq_true q237
             have p238 : 0 ≤ (x6_3 : Int) := of_decide_eq_true (by assumption)
             have q238 : x6_3 < (l1_3.length : Int) := of_decide_eq_true (by assumption)
             obtain ⟨ad238, A238_0, c238_0, A238_1, c238_1, A238_2, c238_2, e238, hx238_0, hx238_1, hx238_2, hx238_3, hx238_4, hx238_5, hl238_0, hi238_0, hl238_1, hi238_1, hl238_2, hi238_2⟩ := at_T61 HR1_3.out x6_3 p238 q238
             have hw238_5 := hx238_5
             have hw238_4 := hx238_4
             have hw238_3 := hx238_3
             have hw238_2 := hx238_2
             have hw238_1 := hx238_1
             have hw238_0 := hx238_0
             cases e238
             replace hx238_0 := (HB.out.cell (World.block_lt_of_cell? w _ hx238_0)).trans hx238_0
             replace hx238_1 := (HB.out.cell (World.block_lt_of_cell? w _ hx238_1)).trans hx238_1
             replace hx238_2 := (HB.out.cell (World.block_lt_of_cell? w _ hx238_2)).trans hx238_2
             replace hx238_3 := (HB.out.cell (World.block_lt_of_cell? w _ hx238_3)).trans hx238_3
             replace hx238_4 := (HB.out.cell (World.block_lt_of_cell? w _ hx238_4)).trans hx238_4
             replace hx238_5 := (HB.out.cell (World.block_lt_of_cell? w _ hx238_5)).trans hx238_5
             have HR238_0 := asd hi238_0
             have HC238_0 := asd hl238_0
             clear hi238_0 hl238_0
             have HR238_1 := asd hi238_1
             have HC238_1 := asd hl238_1
             clear hi238_1 hl238_1
             have HR238_2 := asd hi238_2
             have HC238_2 := asd hl238_2
             clear hi238_2 hl238_2
             replace p238 := eq_true p238
             replace q238 := eq_true q238
             refine start_ (n := 12) (S := fun w' => w'.cell? ⟨gb233, 0, none⟩ = some (.int .i64 a0_0) ∧ w'.cell? ⟨gb233, 1, none⟩ = some (.int .i64 a0_1) ∧ w'.cell? ⟨gb233, 2, none⟩ = some (.slice A0_2 l0_2.length c0_2) ∧ w'.cell? ⟨gb233, 3, none⟩ = some (.slice (some ad237) l0_3.length c0_3) ∧ w'.cell? ⟨gb233, 4, none⟩ = some (.slice A0_4 l0_4.length c0_4) ∧ w'.cell? ⟨gb234, 0, none⟩ = some (.int .i64 a1_0) ∧ w'.cell? ⟨gb234, 1, none⟩ = some (.int .i64 a1_1) ∧ w'.cell? ⟨gb234, 2, none⟩ = some (.slice A1_2 l1_2.length c1_2) ∧ w'.cell? ⟨gb234, 3, none⟩ = some (.slice (some ad238) l1_3.length c1_3) ∧ w'.cell? ⟨gb234, 4, none⟩ = some (.slice A1_4 l1_4.length c1_4) ∧ w'.cell? (ad237.add ((x6_3).toNat * 6)) = some (.slice A237_0 ((rd_T61 l0_3 x6_3).f0).length c237_0) ∧ w'.cell? ⟨(ad237.add ((x6_3).toNat * 6)).block, (ad237.add ((x6_3).toNat * 6)).off + 1, none⟩ = some (.slice A237_1 ((rd_T61 l0_3 x6_3).f1).length c237_1) ∧ w'.cell? ⟨(ad237.add ((x6_3).toNat * 6)).block, (ad237.add ((x6_3).toNat * 6)).off + 2, none⟩ = some (.slice A237_2 ((rd_T61 l0_3 x6_3).f2).length c237_2) ∧ w'.cell? ⟨(ad237.add ((x6_3).toNat * 6)).block, (ad237.add ((x6_3).toNat * 6)).off + 3, none⟩ = some (.int .u8 ((rd_T61 l0_3 x6_3).f3.f0)) ∧ w'.cell? ⟨(ad237.add ((x6_3).toNat * 6)).block, (ad237.add ((x6_3).toNat * 6)).off + 4, none⟩ = some (.int .u8 ((rd_T61 l0_3 x6_3).f3.f1)) ∧ w'.cell? ⟨(ad237.add ((x6_3).toNat * 6)).block, (ad237.add ((x6_3).toNat * 6)).off + 5, none⟩ = some (.int .u8 ((rd_T61 l0_3 x6_3).f3.f2)) ∧ w'.cell? (ad238.add ((x6_3).toNat * 6)) = some (.slice A238_0 ((rd_T61 l1_3 x6_3).f0).length c238_0) ∧ w'.cell? ⟨(ad238.add ((x6_3).toNat * 6)).block, (ad238.add ((x6_3).toNat * 6)).off + 1, none⟩ = some (.slice A238_1 ((rd_T61 l1_3 x6_3).f1).length c238_1) ∧ w'.cell? ⟨(ad238.add ((x6_3).toNat * 6)).block, (ad238.add ((x6_3).toNat * 6)).off + 2, none⟩ = some (.slice A238_2 ((rd_T61 l1_3 x6_3).f2).length c238_2) ∧ w'.cell? ⟨(ad238.add ((x6_3).toNat * 6)).block, (ad238.add ((x6_3).toNat * 6)).off + 3, none⟩ = some (.int .u8 ((rd_T61 l1_3 x6_3).f3.f0)) ∧ w'.cell? ⟨(ad238.add ((x6_3).toNat * 6)).block, (ad238.add ((x6_3).toNat * 6)).off + 4, none⟩ = some (.int .u8 ((rd_T61 l1_3 x6_3).f3.f1)) ∧ w'.cell? ⟨(ad238.add ((x6_3).toNat * 6)).block, (ad238.add ((x6_3).toNat * 6)).off + 5, none⟩ = some (.int .u8 ((rd_T61 l1_3 x6_3).f3.f2))) (ds := []) #[false, false, false, false, false, false, false, false, false, false, false, false] (by kernel_rfl) rfl rfl ⟨(blk_cell BK233.out 0).trans rfl, (blk_cell BK233.out 1).trans rfl, (blk_cell BK233.out 2).trans rfl, (blk_cell BK233.out 3).trans rfl, (blk_cell BK233.out 4).trans rfl, (blk_cell BK234.out 0).trans rfl, (blk_cell BK234.out 1).trans rfl, (blk_cell BK234.out 2).trans rfl, (blk_cell BK234.out 3).trans rfl, (blk_cell BK234.out 4).trans rfl, ((HB.out.cell (World.block_lt_of_cell? w _ hw237_0)).trans hw237_0), ((HB.out.cell (World.block_lt_of_cell? w _ hw237_1)).trans hw237_1), ((HB.out.cell (World.block_lt_of_cell? w _ hw237_2)).trans hw237_2), ((HB.out.cell (World.block_lt_of_cell? w _ hw237_3)).trans hw237_3), ((HB.out.cell (World.block_lt_of_cell? w _ hw237_4)).trans hw237_4), ((HB.out.cell (World.block_lt_of_cell? w _ hw237_5)).trans hw237_5), ((HB.out.cell (World.block_lt_of_cell? w _ hw238_0)).trans hw238_0), ((HB.out.cell (World.block_lt_of_cell? w _ hw238_1)).trans hw238_1), ((HB.out.cell (World.block_lt_of_cell? w _ hw238_2)).trans hw238_2), ((HB.out.cell (World.block_lt_of_cell? w _ hw238_3)).trans hw238_3), ((HB.out.cell (World.block_lt_of_cell? w _ hw238_4)).trans hw238_4), ((HB.out.cell (World.block_lt_of_cell? w _ hw238_5)).trans hw238_5)⟩ (fun hHeld => ?_); refine with_tabW parcloseref03_Same.tab11 parcloseref03_Same.bits11 (fun HT_ HW_ => ?_)
             generalize wr.drew = w49 at BK233 BK234 HB HR237_0 HR237_1 HR237_2 HR238_0 HR238_1 HR238_2 hx237_0 hx237_1 hx237_2 hx237_3 hx237_4 hx237_5 hx238_0 hx238_1 hx238_2 hx238_3 hx238_4 hx238_5 hHeld ⊢
             refine pure_ (i := 0) (N := some 72) (v := ?_) (a' := ?_) #[true, false, false, false, false, false, false, false, false, false, false, false] rfl rfl (any_of HT_.out (by kernel_rfl)) (fun _ _ _ h => h) (Or.inl ⟨by rfl, ?_⟩) ?_ ?_
             rotate_left
             ·intro w'
              go_simp
              with_reducible rfl
             rotate_left
             ·simp only [Act.put, sB, i64_w, i32_w]
              rfl
             refine pure_ (i := 2) (N := some 74) (v := ?_) (a' := ?_) #[true, false, true, false, false, false, false, false, false, false, false, false] rfl rfl (any_of HT_.out (by kernel_rfl)) (fun _ _ _ h => h) (Or.inl ⟨by rfl, ?_⟩) ?_ ?_
             rotate_left
             ·intro w'
              go_simp
              with_reducible rfl
             rotate_left
             ·simp only [Act.put, sB, i64_w, i32_w]
              rfl
             refine pure_ (i := 5) (N := some 77) (v := ?_) (a' := ?_) #[true, false, true, false, false, true, false, false, false, false, false, false] rfl rfl (any_of HT_.out (by kernel_rfl)) (fun _ _ _ h => h) (Or.inl ⟨by rfl, ?_⟩) ?_ ?_
             rotate_left
             ·intro w'
              go_simp
              with_reducible rfl
             rotate_left
             ·simp only [Act.put, sB, i64_w, i32_w]
              rfl
             refine pure_ (i := 7) (N := some 79) (v := ?_) (a' := ?_) #[true, false, true, false, false, true, false, true, false, false, false, false] rfl rfl (any_of HT_.out (by kernel_rfl)) (fun _ _ _ h => h) (Or.inl ⟨by rfl, ?_⟩) ?_ ?_
             rotate_left
             ·intro w'
              go_simp
              with_reducible rfl
             rotate_left
             ·simp only [Act.put, sB, i64_w, i32_w]
              rfl
             refine take_ (i := 1) (N := some 73) (v := ?_) (a' := ?_) #[true, true, true, false, false, true, false, true, false, false, false, false] rfl rfl (take_ofW HT_.out HW_.out (by kernel_rfl)) (fun _ _ _ h => h) (Or.inl ⟨by rfl, ?_⟩) hHeld ?_ ?_
             rotate_left
             ·rintro w' ⟨s0, s1, s2, s3, s4, s5, s6, s7, s8, s9, s10, s11, s12, s13, s14, s15, s16, s17, s18, s19, s20, s21⟩
              go_simp
              with_reducible rfl
             rotate_left
             ·simp only [Act.put, sB, i64_w, i32_w]
              rfl
             refine pure_ (i := 3) (N := some 75) (v := ?_) (a' := ?_) #[true, true, true, true, false, true, false, true, false, false, false, false] rfl rfl (any_of HT_.out (by kernel_rfl)) (fun _ _ _ h => h) (Or.inl ⟨by rfl, ?_⟩) ?_ ?_
             rotate_left
             ·intro w'
              go_simp
              with_reducible rfl
             rotate_left
             ·simp only [Act.put, sB, i64_w, i32_w]
              rfl
             refine take_ (i := 4) (N := some 76) (v := ?_) (a' := ?_) #[true, true, true, true, true, true, false, true, false, false, false, false] rfl rfl (take_ofW HT_.out HW_.out (by kernel_rfl)) (fun _ _ _ h => h) (Or.inl ⟨by rfl, ?_⟩) hHeld ?_ ?_
             rotate_left
             ·rintro w' ⟨s0, s1, s2, s3, s4, s5, s6, s7, s8, s9, s10, s11, s12, s13, s14, s15, s16, s17, s18, s19, s20, s21⟩
              go_simp
              with_reducible rfl
             rotate_left
             ·simp only [Act.put, sB, i64_w, i32_w]
              rfl
             refine take_ (i := 6) (N := some 78) (v := ?_) (a' := ?_) #[true, true, true, true, true, true, true, true, false, false, false, false] rfl rfl (take_ofW HT_.out HW_.out (by kernel_rfl)) (fun _ _ _ h => h) (Or.inl ⟨by rfl, ?_⟩) hHeld ?_ ?_
             rotate_left
             ·rintro w' ⟨s0, s1, s2, s3, s4, s5, s6, s7, s8, s9, s10, s11, s12, s13, s14, s15, s16, s17, s18, s19, s20, s21⟩
              go_simp
              with_reducible rfl
             rotate_left
             ·simp only [Act.put, sB, i64_w, i32_w]
              rfl
             refine pure_ (i := 8) (N := some 80) (v := ?_) (a' := ?_) #[true, true, true, true, true, true, true, true, true, false, false, false] rfl rfl (any_of HT_.out (by kernel_rfl)) (fun _ _ _ h => h) (Or.inl ⟨by rfl, ?_⟩) ?_ ?_
             rotate_left
             ·intro w'
              go_simp
              with_reducible rfl
             rotate_left
             ·simp only [Act.put, sB, i64_w, i32_w]
              rfl
             refine take_ (i := 9) (N := some 81) (v := ?_) (a' := ?_) #[true, true, true, true, true, true, true, true, true, true, false, false] rfl rfl (take_ofW HT_.out HW_.out (by kernel_rfl)) (fun _ _ _ h => h) (Or.inl ⟨by rfl, ?_⟩) hHeld ?_ ?_
             rotate_left
             ·rintro w' ⟨s0, s1, s2, s3, s4, s5, s6, s7, s8, s9, s10, s11, s12, s13, s14, s15, s16, s17, s18, s19, s20, s21⟩
              go_simp
              with_reducible rfl
             rotate_left
             ·simp only [Act.put, sB, i64_w, i32_w]
              rfl
             refine one_ (i := 10) (N := some 82) #[true, true, true, true, true, true, true, true, true, true, true, false] rfl rfl (one_of HT_.out (by kernel_rfl)) (by decide) (fun K hK => ?_)
             refine goes_ Try.func55 (by kernel_rfl) rfl #[.agg #[.slice A237_0 ((rd_T61 l0_3 x6_3).f0).length c237_0, .slice A237_1 ((rd_T61 l0_3 x6_3).f1).length c237_1, .slice A237_2 ((rd_T61 l0_3 x6_3).f2).length c237_2, .int .u8 ((rd_T61 l0_3 x6_3).f3.f0), .int .u8 ((rd_T61 l0_3 x6_3).f3.f1), .int .u8 ((rd_T61 l0_3 x6_3).f3.f2)], .agg #[.slice A238_0 ((rd_T61 l1_3 x6_3).f0).length c238_0, .slice A238_1 ((rd_T61 l1_3 x6_3).f1).length c238_1, .slice A238_2 ((rd_T61 l1_3 x6_3).f2).length c238_2, .int .u8 ((rd_T61 l1_3 x6_3).f3.f0), .int .u8 ((rd_T61 l1_3 x6_3).f3.f1), .int .u8 ((rd_T61 l1_3 x6_3).f3.f2)]] (by rfl) rfl rfl (by (try simp only [List.map_toArray, List.map_cons, List.map_nil]); first | done | rfl | (simp only [List.length_drop, List.length_take]; rfl)) ?_
             with_reducible refine (parcloseref03_samePart.calls k3 _ _ ((rd_T61 l0_3 x6_3).f0) _ _ ((rd_T61 l0_3 x6_3).f1) _ _ ((rd_T61 l0_3 x6_3).f2) ((rd_T61 l0_3 x6_3).f3.f0) ((rd_T61 l0_3 x6_3).f3.f1) ((rd_T61 l0_3 x6_3).f3.f2) _ _ ((rd_T61 l1_3 x6_3).f0) _ _ ((rd_T61 l1_3 x6_3).f1) _ _ ((rd_T61 l1_3 x6_3).f2) ((rd_T61 l1_3 x6_3).f3.f0) ((rd_T61 l1_3 x6_3).f3.f1) ((rd_T61 l1_3 x6_3).f3.f2) false _ ?side1 ?side2 ?side3 ?side4 ?side5 ?side6 ?side7 ?side8 ?side9 ?side10 ?side11 ?side12 A41.out).mono ?_
             (case side1 => repeat (first | exact (Kd.C_below HR237_0.out HB.out) | (with_reducible refine Kd.C_alloc ?_ _) | (with_reducible refine Kd.C_drewN ?_ _) | (with_reducible refine Kd.C_drew ?_)))
             (case side2 => exact HC237_0.out)
             (case side3 => repeat (first | exact (Kd.C_below HR237_1.out HB.out) | (with_reducible refine Kd.C_alloc ?_ _) | (with_reducible refine Kd.C_drewN ?_ _) | (with_reducible refine Kd.C_drew ?_)))
             (case side4 => exact HC237_1.out)
             (case side5 => repeat (first | exact (Kd.C_below HR237_2.out HB.out) | (with_reducible refine Kd.C_alloc ?_ _) | (with_reducible refine Kd.C_drewN ?_ _) | (with_reducible refine Kd.C_drew ?_)))
             (case side6 => exact HC237_2.out)
             (case side7 => repeat (first | exact (Kd.C_below HR238_0.out HB.out) | (with_reducible refine Kd.C_alloc ?_ _) | (with_reducible refine Kd.C_drewN ?_ _) | (with_reducible refine Kd.C_drew ?_)))
             (case side8 => exact HC238_0.out)
             (case side9 => repeat (first | exact (Kd.C_below HR238_1.out HB.out) | (with_reducible refine Kd.C_alloc ?_ _) | (with_reducible refine Kd.C_drewN ?_ _) | (with_reducible refine Kd.C_drew ?_)))
             (case side10 => exact HC238_1.out)
             (case side11 => repeat (first | exact (Kd.C_below HR238_2.out HB.out) | (with_reducible refine Kd.C_alloc ?_ _) | (with_reducible refine Kd.C_drewN ?_ _) | (with_reducible refine Kd.C_drew ?_)))
             (case side12 => exact HC238_2.out)
             rintro e w50 ⟨rfl, hb⟩
             refine ⟨_, rfl, ?_⟩
             have n0_ := asd (blk_below (g := gb233) (o := .cells #[.int .i64 a0_0, .int .i64 a0_1, .slice A0_2 l0_2.length c0_2, .slice (some ad237) l0_3.length c0_3, .slice A0_4 l0_4.length c0_4] 26 (0, 0)) (by (with_reducible repeat first | apply bn | apply bd | apply ba); exact BK233.out) hb)
             have n1_ := asd (blk_below (g := gb234) (o := .cells #[.int .i64 a1_0, .int .i64 a1_1, .slice A1_2 l1_2.length c1_2, .slice (some ad238) l1_3.length c1_3, .slice A1_4 l1_4.length c1_4] 26 (0, 0)) (by (with_reducible repeat first | apply bn | apply bd | apply ba); exact BK234.out) hb)
             have n2_ := asd (below_step (by repeat (first | (with_reducible first | exact HB.out | apply wa | apply wn | apply wd | refine ws ?_ GE233.out | refine ws ?_ GE234.out) | exact HB.out)) hb)
             clear BK233
             clear BK234
             clear HB
             have BK233 := n0_
             have BK234 := n1_
             have HB := n2_
             clear n0_ n1_ n2_
             (try clear hb)
             (try clear hb2)
             (try clear hk)
             (try clear hi)
             refine hK.out _ _ ⟨(blk_cell BK233.out 0).trans rfl, (blk_cell BK233.out 1).trans rfl, (blk_cell BK233.out 2).trans rfl, (blk_cell BK233.out 3).trans rfl, (blk_cell BK233.out 4).trans rfl, (blk_cell BK234.out 0).trans rfl, (blk_cell BK234.out 1).trans rfl, (blk_cell BK234.out 2).trans rfl, (blk_cell BK234.out 3).trans rfl, (blk_cell BK234.out 4).trans rfl, ((HB.out.cell (World.block_lt_of_cell? w _ hw237_0)).trans hw237_0), ((HB.out.cell (World.block_lt_of_cell? w _ hw237_1)).trans hw237_1), ((HB.out.cell (World.block_lt_of_cell? w _ hw237_2)).trans hw237_2), ((HB.out.cell (World.block_lt_of_cell? w _ hw237_3)).trans hw237_3), ((HB.out.cell (World.block_lt_of_cell? w _ hw237_4)).trans hw237_4), ((HB.out.cell (World.block_lt_of_cell? w _ hw237_5)).trans hw237_5), ((HB.out.cell (World.block_lt_of_cell? w _ hw238_0)).trans hw238_0), ((HB.out.cell (World.block_lt_of_cell? w _ hw238_1)).trans hw238_1), ((HB.out.cell (World.block_lt_of_cell? w _ hw238_2)).trans hw238_2), ((HB.out.cell (World.block_lt_of_cell? w _ hw238_3)).trans hw238_3), ((HB.out.cell (World.block_lt_of_cell? w _ hw238_4)).trans hw238_4), ((HB.out.cell (World.block_lt_of_cell? w _ hw238_5)).trans hw238_5)⟩ (fun hHeld => ?_)
             clear hK K
             refine norm_ (a' := ?_) ?_ ?_
             rotate_left
             ·show Act.put _ (some 82) _ = _
              simp only [Act.put, sB, i64_w, i32_w]
              rfl
             refine pure_ (i := 11) (N := some 83) (v := ?_) (a' := ?_) #[true, true, true, true, true, true, true, true, true, true, true, true] rfl rfl (any_of HT_.out (by kernel_rfl)) (fun _ _ _ h => h) (Or.inl ⟨by rfl, ?_⟩) ?_ ?_
             rotate_left
             ·intro w'
              go_simp
              with_reducible rfl
             rotate_left
             ·simp only [Act.put, sB, i64_w, i32_w]
              rfl
             refine done_ (done_of HT_.out (by kernel_rfl)) ?_
             try go_wp2
             go_ret
             exact ⟨by first | rfl | (simp [*] <;> rfl), by repeat (first | (with_reducible first | exact HB.out | apply wa | apply wn | apply wd | refine ws ?_ GE233.out | refine ws ?_ GE234.out) | exact HB.out)⟩
           ·rw [if_neg c40] at H
            exact absurd H (by simp)
          ·rw [if_neg c39] at H
           exact absurd H (by simp)
         ·rw [if_neg c38] at H
          have c38b0 : decide (x6_3 < (l0_3.length : Int)) = false := decide_eq_false c38
          clear c38
          have H' := asd H
          clear H
          have hnb51 := NB233_234.out
          have hnc51 := NB234_233.out
          have hcz52_0 : wr.cell? ⟨gb233, 0, none⟩ = some (.int .i64 a0_0) := (blk_cell BK233.out 0).trans rfl
          have hcz52_1 : wr.cell? ⟨gb233, 1, none⟩ = some (.int .i64 a0_1) := (blk_cell BK233.out 1).trans rfl
          have hcz52_2 : wr.cell? ⟨gb233, 2, none⟩ = some (.slice A0_2 l0_2.length c0_2) := (blk_cell BK233.out 2).trans rfl
          have hcz52_3 : wr.cell? ⟨gb233, 3, none⟩ = some (.slice A0_3 l0_3.length c0_3) := (blk_cell BK233.out 3).trans rfl
          have hcz52_4 : wr.cell? ⟨gb233, 4, none⟩ = some (.slice A0_4 l0_4.length c0_4) := (blk_cell BK233.out 4).trans rfl
          have hfz52_0 := blk_frozen BK233.out 0
          have hfz52_1 := blk_frozen BK233.out 1
          have hfz52_2 := blk_frozen BK233.out 2
          have hfz52_3 := blk_frozen BK233.out 3
          have hfz52_4 := blk_frozen BK233.out 4
          go_wp2
          go_loopg [7] k3 (fun kq v7 w' => ∃ (x7_4 : Int), v7 = .int .i64 x7_4 ∧ Aside0 (parcloseref03_Same.l2 kq x7_4 a0_0 a0_1 l0_2 l0_3 l0_4 a1_0 a1_1 l1_2 l1_3 l1_4 = some r) ∧ Aside0 (kq ≤ k3) ∧ Aside0 (w'.heap[gb233]? = some (.cells #[.int .i64 a0_0, .int .i64 a0_1, (.slice A0_2 l0_2.length c0_2), (.slice A0_3 l0_3.length c0_3), (.slice A0_4 l0_4.length c0_4)] 26 (0, 0))) ∧ Aside0 (w'.heap[gb234]? = some (.cells #[.int .i64 a1_0, .int .i64 a1_1, (.slice A1_2 l1_2.length c1_2), (.slice A1_3 l1_3.length c1_3), (.slice A1_4 l1_4.length c1_4)] 26 (0, 0))) ∧ Aside0 (Below w.heap.size w w'))
          case atStart => exact ⟨(0), (by first | rfl | (simp; done) | (simp [*]; done)), H', ⟨Nat.le_refl _⟩, ⟨by (with_reducible repeat first | apply bn | apply bd | apply ba); exact BK233.out⟩, ⟨by (with_reducible repeat first | apply bn | apply bd | apply ba); exact BK234.out⟩, ⟨by repeat (first | (with_reducible first | exact HB.out | apply wa | apply wn | apply wd | refine ws ?_ GE233.out | refine ws ?_ GE234.out) | exact HB.out)⟩⟩
          case round =>
           clear H'
           try clear c1
           try clear c2
           try clear p2
           try clear q2
           try clear hx2
           try clear c3
           try clear c4
           try clear c5
           try clear p6
           try clear c23
           try clear p23
           try clear q23
           try clear hx23
           try clear c38
           try clear c38b0
           try clear c39
           try clear c39b0
           try clear c40
           try clear c40b0
           try clear c42
           try clear c43
           try clear c47
           try clear c51
           try clear hcz18_0
           try clear hcz18_1
           try clear hcz18_2
           try clear hcz18_3
           try clear hcz18_4
           try clear hcz20_0
           try clear hcz20_1
           try clear hcz20_2
           try clear hcz20_3
           try clear hcz20_4
           try clear hcz21_0
           try clear hcz21_1
           try clear hcz21_2
           try clear hcz21_3
           try clear hcz21_4
           try clear hcz23_0
           try clear hcz23_1
           try clear hcz23_2
           try clear hcz23_3
           try clear hcz23_4
           try clear hcz24_0
           try clear hcz24_1
           try clear hcz24_2
           try clear hcz24_3
           try clear hcz24_4
           try clear hcz31_0
           try clear hcz31_1
           try clear hcz31_2
           try clear hcz31_3
           try clear hcz31_4
           try clear hcz34_0
           try clear hcz34_1
           try clear hcz34_2
           try clear hcz34_3
           try clear hcz34_4
           try clear hcz37_0
           try clear hcz37_1
           try clear hcz37_2
           try clear hcz37_3
           try clear hcz37_4
           try clear hcz44_0
           try clear hcz44_1
           try clear hcz44_2
           try clear hcz44_3
           try clear hcz44_4
           try clear hcz48_0
           try clear hcz48_1
           try clear hcz48_2
           try clear hcz48_3
           try clear hcz48_4
           try clear hcz52_0
           try clear hcz52_1
           try clear hcz52_2
           try clear hcz52_3
           try clear hcz52_4
           try clear hfz11_0
           try clear hfz11_1
           try clear hfz11_2
           try clear hfz11_3
           try clear hfz11_4
           try clear hfz12_0
           try clear hfz12_1
           try clear hfz12_2
           try clear hfz12_3
           try clear hfz12_4
           try clear hfz14_0
           try clear hfz14_1
           try clear hfz14_2
           try clear hfz14_3
           try clear hfz14_4
           try clear hfz15_0
           try clear hfz15_1
           try clear hfz15_2
           try clear hfz15_3
           try clear hfz15_4
           try clear hfz17_0
           try clear hfz17_1
           try clear hfz17_2
           try clear hfz17_3
           try clear hfz17_4
           try clear hfz18_0
           try clear hfz18_1
           try clear hfz18_2
           try clear hfz18_3
           try clear hfz18_4
           try clear hfz20_0
           try clear hfz20_1
           try clear hfz20_2
           try clear hfz20_3
           try clear hfz20_4
           try clear hfz21_0
           try clear hfz21_1
           try clear hfz21_2
           try clear hfz21_3
           try clear hfz21_4
           try clear hfz23_0
           try clear hfz23_1
           try clear hfz23_2
           try clear hfz23_3
           try clear hfz23_4
           try clear hfz24_0
           try clear hfz24_1
           try clear hfz24_2
           try clear hfz24_3
           try clear hfz24_4
           try clear hfz31_0
           try clear hfz31_1
           try clear hfz31_2
           try clear hfz31_3
           try clear hfz31_4
           try clear hfz34_0
           try clear hfz34_1
           try clear hfz34_2
           try clear hfz34_3
           try clear hfz34_4
           try clear hfz37_0
           try clear hfz37_1
           try clear hfz37_2
           try clear hfz37_3
           try clear hfz37_4
           try clear hfz44_0
           try clear hfz44_1
           try clear hfz44_2
           try clear hfz44_3
           try clear hfz44_4
           try clear hfz48_0
           try clear hfz48_1
           try clear hfz48_2
           try clear hfz48_3
           try clear hfz48_4
           try clear hfz52_0
           try clear hfz52_1
           try clear hfz52_2
           try clear hfz52_3
           try clear hfz52_4
           try clear hx235_0
           try clear hx235_1
           try clear hx235_2
           try clear hx236_0
           try clear hx236_1
           try clear hx236_2
           try clear hx237_0
           try clear hx237_1
           try clear hx237_2
           try clear hx237_3
           try clear hx237_4
           try clear hx237_5
           try clear hx238_0
           try clear hx238_1
           try clear hx238_2
           try clear hx238_3
           try clear hx238_4
           try clear hx238_5
           try clear p2
           try clear p235
           try clear p236
           try clear p237
           try clear p238
           try clear q235
           try clear q236
           try clear q237
           try clear q238
           obtain ⟨x7_4, rfl, HA, HK4, BK233, BK234, HB⟩ := hrel
           cases gk with
           | zero => exact absurd HA.out (by simp [parcloseref03_Same.l2])
           | succ k4 =>
            have H := HA.out
            clear HA
            simp only [parcloseref03_Same.l2] at H
            by_cases c53 : x7_4 < (l0_4.length : Int)
            ·rw [if_pos c53] at H
             have c53b0 : decide (x7_4 < (l0_4.length : Int)) = true := decide_eq_true c53
             clear c53
             by_cases c54 : 0 ≤ x7_4
             ·rw [if_pos c54] at H
              have c54b0 : decide (0 ≤ x7_4) = true := decide_eq_true c54
              clear c54
              by_cases c55 : x7_4 < (l1_4.length : Int)
              ·rw [if_pos c55] at H
               have c55b0 : decide (x7_4 < (l1_4.length : Int)) = true := decide_eq_true c55
               clear c55
               by_cases c56 : (!(((rd_T78 l0_4 x7_4).f0) == ((rd_T78 l1_4 x7_4).f0)) || (!(((rd_T78 l0_4 x7_4).f1) == ((rd_T78 l1_4 x7_4).f1)) || (!(((rd_T78 l0_4 x7_4).f2) == ((rd_T78 l1_4 x7_4).f2)) || (!(((rd_T78 l0_4 x7_4).f3) == ((rd_T78 l1_4 x7_4).f3)))))) = true
               ·rw [if_pos c56] at H
                have c56b0 : (!(((rd_T78 l0_4 x7_4).f0) == ((rd_T78 l1_4 x7_4).f0)) || (!(((rd_T78 l0_4 x7_4).f1) == ((rd_T78 l1_4 x7_4).f1)) || (!(((rd_T78 l0_4 x7_4).f2) == ((rd_T78 l1_4 x7_4).f2)) || (!(((rd_T78 l0_4 x7_4).f3) == ((rd_T78 l1_4 x7_4).f3)))))) = true := c56
                clear c56
                obtain rfl := Option.some.inj H
                have hnb57 := NB233_234.out
                have hnc57 := NB234_233.out
                have hcz58_0 : wr.cell? ⟨gb233, 0, none⟩ = some (.int .i64 a0_0) := (blk_cell BK233.out 0).trans rfl
                have hcz58_1 : wr.cell? ⟨gb233, 1, none⟩ = some (.int .i64 a0_1) := (blk_cell BK233.out 1).trans rfl
                have hcz58_2 : wr.cell? ⟨gb233, 2, none⟩ = some (.slice A0_2 l0_2.length c0_2) := (blk_cell BK233.out 2).trans rfl
                have hcz58_3 : wr.cell? ⟨gb233, 3, none⟩ = some (.slice A0_3 l0_3.length c0_3) := (blk_cell BK233.out 3).trans rfl
                have hcz58_4 : wr.cell? ⟨gb233, 4, none⟩ = some (.slice A0_4 l0_4.length c0_4) := (blk_cell BK233.out 4).trans rfl
                have hfz58_0 := blk_frozen BK233.out 0
                have hfz58_1 := blk_frozen BK233.out 1
                have hfz58_2 := blk_frozen BK233.out 2
                have hfz58_3 := blk_frozen BK233.out 3
                have hfz58_4 := blk_frozen BK233.out 4
                try go_wp2
                have n0_ := asd (blk_drew BK233.out)
                have n1_ := asd (blk_drew BK234.out)
                have n2_ := asd (below_drew1 HB.out)
                clear BK233
                clear BK234
                clear HB
                have BK233 := n0_
                have BK234 := n1_
                have HB := n2_
                clear n0_ n1_ n2_
                have p240 : 0 ≤ (x7_4 : Int) := of_decide_eq_true (by assumption)
                have q240 : x7_4 < (l0_4.length : Int) := of_decide_eq_true (by assumption)
                obtain ⟨ad240, e240, hx240_0, hx240_1, hx240_2, hx240_3⟩ := at_T78 HR0_4.out x7_4 p240 q240
                have hw240_3 := hx240_3
                have hw240_2 := hx240_2
                have hw240_1 := hx240_1
                have hw240_0 := hx240_0
                cases e240
                replace hx240_0 := (HB.out.cell (World.block_lt_of_cell? w _ hx240_0)).trans hx240_0
                replace hx240_1 := (HB.out.cell (World.block_lt_of_cell? w _ hx240_1)).trans hx240_1
                replace hx240_2 := (HB.out.cell (World.block_lt_of_cell? w _ hx240_2)).trans hx240_2
                replace hx240_3 := (HB.out.cell (World.block_lt_of_cell? w _ hx240_3)).trans hx240_3
                replace p240 := eq_true p240
                replace q240 := eq_true q240
                have p241 : 0 ≤ (x7_4 : Int) := of_decide_eq_true (by assumption)
                have q241 : x7_4 < (l1_4.length : Int) := of_decide_eq_true (by assumption)
                obtain ⟨ad241, e241, hx241_0, hx241_1, hx241_2, hx241_3⟩ := at_T78 HR1_4.out x7_4 p241 q241
                have hw241_3 := hx241_3
                have hw241_2 := hx241_2
                have hw241_1 := hx241_1
                have hw241_0 := hx241_0
                cases e241
                replace hx241_0 := (HB.out.cell (World.block_lt_of_cell? w _ hx241_0)).trans hx241_0
                replace hx241_1 := (HB.out.cell (World.block_lt_of_cell? w _ hx241_1)).trans hx241_1
                replace hx241_2 := (HB.out.cell (World.block_lt_of_cell? w _ hx241_2)).trans hx241_2
                replace hx241_3 := (HB.out.cell (World.block_lt_of_cell? w _ hx241_3)).trans hx241_3
                replace p241 := eq_true p241
                replace q241 := eq_true q241
                refine start_ (n := 11) (S := fun w' => w'.cell? ⟨gb233, 0, none⟩ = some (.int .i64 a0_0) ∧ w'.cell? ⟨gb233, 1, none⟩ = some (.int .i64 a0_1) ∧ w'.cell? ⟨gb233, 2, none⟩ = some (.slice A0_2 l0_2.length c0_2) ∧ w'.cell? ⟨gb233, 3, none⟩ = some (.slice A0_3 l0_3.length c0_3) ∧ w'.cell? ⟨gb233, 4, none⟩ = some (.slice (some ad240) l0_4.length c0_4) ∧ w'.cell? ⟨gb234, 0, none⟩ = some (.int .i64 a1_0) ∧ w'.cell? ⟨gb234, 1, none⟩ = some (.int .i64 a1_1) ∧ w'.cell? ⟨gb234, 2, none⟩ = some (.slice A1_2 l1_2.length c1_2) ∧ w'.cell? ⟨gb234, 3, none⟩ = some (.slice A1_3 l1_3.length c1_3) ∧ w'.cell? ⟨gb234, 4, none⟩ = some (.slice (some ad241) l1_4.length c1_4) ∧ w'.cell? (ad240.add ((x7_4).toNat * 4)) = some (.bool ((rd_T78 l0_4 x7_4).f0)) ∧ w'.cell? ⟨(ad240.add ((x7_4).toNat * 4)).block, (ad240.add ((x7_4).toNat * 4)).off + 1, none⟩ = some (.int .i64 ((rd_T78 l0_4 x7_4).f1)) ∧ w'.cell? ⟨(ad240.add ((x7_4).toNat * 4)).block, (ad240.add ((x7_4).toNat * 4)).off + 2, none⟩ = some (.int .i64 ((rd_T78 l0_4 x7_4).f2)) ∧ w'.cell? ⟨(ad240.add ((x7_4).toNat * 4)).block, (ad240.add ((x7_4).toNat * 4)).off + 3, none⟩ = some (.int .i64 ((rd_T78 l0_4 x7_4).f3)) ∧ w'.cell? (ad241.add ((x7_4).toNat * 4)) = some (.bool ((rd_T78 l1_4 x7_4).f0)) ∧ w'.cell? ⟨(ad241.add ((x7_4).toNat * 4)).block, (ad241.add ((x7_4).toNat * 4)).off + 1, none⟩ = some (.int .i64 ((rd_T78 l1_4 x7_4).f1)) ∧ w'.cell? ⟨(ad241.add ((x7_4).toNat * 4)).block, (ad241.add ((x7_4).toNat * 4)).off + 2, none⟩ = some (.int .i64 ((rd_T78 l1_4 x7_4).f2)) ∧ w'.cell? ⟨(ad241.add ((x7_4).toNat * 4)).block, (ad241.add ((x7_4).toNat * 4)).off + 3, none⟩ = some (.int .i64 ((rd_T78 l1_4 x7_4).f3))) (ds := []) #[false, false, false, false, false, false, false, false, false, false, false] (by kernel_rfl) rfl rfl ⟨(blk_cell BK233.out 0).trans rfl, (blk_cell BK233.out 1).trans rfl, (blk_cell BK233.out 2).trans rfl, (blk_cell BK233.out 3).trans rfl, (blk_cell BK233.out 4).trans rfl, (blk_cell BK234.out 0).trans rfl, (blk_cell BK234.out 1).trans rfl, (blk_cell BK234.out 2).trans rfl, (blk_cell BK234.out 3).trans rfl, (blk_cell BK234.out 4).trans rfl, ((HB.out.cell (World.block_lt_of_cell? w _ hw240_0)).trans hw240_0), ((HB.out.cell (World.block_lt_of_cell? w _ hw240_1)).trans hw240_1), ((HB.out.cell (World.block_lt_of_cell? w _ hw240_2)).trans hw240_2), ((HB.out.cell (World.block_lt_of_cell? w _ hw240_3)).trans hw240_3), ((HB.out.cell (World.block_lt_of_cell? w _ hw241_0)).trans hw241_0), ((HB.out.cell (World.block_lt_of_cell? w _ hw241_1)).trans hw241_1), ((HB.out.cell (World.block_lt_of_cell? w _ hw241_2)).trans hw241_2), ((HB.out.cell (World.block_lt_of_cell? w _ hw241_3)).trans hw241_3)⟩ (fun hHeld => ?_); refine with_tabW parcloseref03_Same.tab16 parcloseref03_Same.bits16 (fun HT_ HW_ => ?_)
                generalize wr.drew = w59 at BK233 BK234 HB hx240_0 hx240_1 hx240_2 hx240_3 hx241_0 hx241_1 hx241_2 hx241_3 hHeld ⊢
                refine pure_ (i := 0) (N := some 91) (v := ?_) (a' := ?_) #[true, false, false, false, false, false, false, false, false, false, false] rfl rfl (any_of HT_.out (by kernel_rfl)) (fun _ _ _ h => h) (Or.inl ⟨by rfl, ?_⟩) ?_ ?_
                rotate_left
                ·intro w'
                 go_simp
                 with_reducible rfl
                rotate_left
                ·simp only [Act.put, sB, i64_w, i32_w]
                 rfl
                refine pure_ (i := 2) (N := some 93) (v := ?_) (a' := ?_) #[true, false, true, false, false, false, false, false, false, false, false] rfl rfl (any_of HT_.out (by kernel_rfl)) (fun _ _ _ h => h) (Or.inl ⟨by rfl, ?_⟩) ?_ ?_
                rotate_left
                ·intro w'
                 go_simp
                 with_reducible rfl
                rotate_left
                ·simp only [Act.put, sB, i64_w, i32_w]
                 rfl
                refine pure_ (i := 5) (N := some 96) (v := ?_) (a' := ?_) #[true, false, true, false, false, true, false, false, false, false, false] rfl rfl (any_of HT_.out (by kernel_rfl)) (fun _ _ _ h => h) (Or.inl ⟨by rfl, ?_⟩) ?_ ?_
                rotate_left
                ·intro w'
                 go_simp
                 with_reducible rfl
                rotate_left
                ·simp only [Act.put, sB, i64_w, i32_w]
                 rfl
                refine pure_ (i := 7) (N := some 98) (v := ?_) (a' := ?_) #[true, false, true, false, false, true, false, true, false, false, false] rfl rfl (any_of HT_.out (by kernel_rfl)) (fun _ _ _ h => h) (Or.inl ⟨by rfl, ?_⟩) ?_ ?_
                rotate_left
                ·intro w'
                 go_simp
                 with_reducible rfl
                rotate_left
                ·simp only [Act.put, sB, i64_w, i32_w]
                 rfl
                refine take_ (i := 1) (N := some 92) (v := ?_) (a' := ?_) #[true, true, true, false, false, true, false, true, false, false, false] rfl rfl (take_ofW HT_.out HW_.out (by kernel_rfl)) (fun _ _ _ h => h) (Or.inl ⟨by rfl, ?_⟩) hHeld ?_ ?_
                rotate_left
                ·rintro w' ⟨s0, s1, s2, s3, s4, s5, s6, s7, s8, s9, s10, s11, s12, s13, s14, s15, s16, s17⟩
                 go_simp
                 with_reducible rfl
                rotate_left
                ·simp only [Act.put, sB, i64_w, i32_w]
                 rfl
                refine pure_ (i := 3) (N := some 94) (v := ?_) (a' := ?_) #[true, true, true, true, false, true, false, true, false, false, false] rfl rfl (any_of HT_.out (by kernel_rfl)) (fun _ _ _ h => h) (Or.inl ⟨by rfl, ?_⟩) ?_ ?_
                rotate_left
                ·intro w'
                 go_simp
                 with_reducible rfl
                rotate_left
                ·simp only [Act.put, sB, i64_w, i32_w]
                 rfl
                refine take_ (i := 4) (N := some 95) (v := ?_) (a' := ?_) #[true, true, true, true, true, true, false, true, false, false, false] rfl rfl (take_ofW HT_.out HW_.out (by kernel_rfl)) (fun _ _ _ h => h) (Or.inl ⟨by rfl, ?_⟩) hHeld ?_ ?_
                rotate_left
                ·rintro w' ⟨s0, s1, s2, s3, s4, s5, s6, s7, s8, s9, s10, s11, s12, s13, s14, s15, s16, s17⟩
                 go_simp
                 with_reducible rfl
                rotate_left
                ·simp only [Act.put, sB, i64_w, i32_w]
                 rfl
                refine take_ (i := 6) (N := some 97) (v := ?_) (a' := ?_) #[true, true, true, true, true, true, true, true, false, false, false] rfl rfl (take_ofW HT_.out HW_.out (by kernel_rfl)) (fun _ _ _ h => h) (Or.inl ⟨by rfl, ?_⟩) hHeld ?_ ?_
                rotate_left
                ·rintro w' ⟨s0, s1, s2, s3, s4, s5, s6, s7, s8, s9, s10, s11, s12, s13, s14, s15, s16, s17⟩
                 go_simp
                 with_reducible rfl
                rotate_left
                ·simp only [Act.put, sB, i64_w, i32_w]
                 rfl
                refine pure_ (i := 8) (N := some 99) (v := ?_) (a' := ?_) #[true, true, true, true, true, true, true, true, true, false, false] rfl rfl (any_of HT_.out (by kernel_rfl)) (fun _ _ _ h => h) (Or.inl ⟨by rfl, ?_⟩) ?_ ?_
                rotate_left
                ·intro w'
                 go_simp
                 with_reducible rfl
                rotate_left
                ·simp only [Act.put, sB, i64_w, i32_w]
                 rfl
                refine take_ (i := 9) (N := some 100) (v := ?_) (a' := ?_) #[true, true, true, true, true, true, true, true, true, true, false] rfl rfl (take_ofW HT_.out HW_.out (by kernel_rfl)) (fun _ _ _ h => h) (Or.inl ⟨by rfl, ?_⟩) hHeld ?_ ?_
                rotate_left
                ·rintro w' ⟨s0, s1, s2, s3, s4, s5, s6, s7, s8, s9, s10, s11, s12, s13, s14, s15, s16, s17⟩
                 go_simp
                 with_reducible rfl
                rotate_left
                ·simp only [Act.put, sB, i64_w, i32_w]
                 rfl
                refine pure_ (i := 10) (N := some 101) (v := ?_) (a' := ?_) #[true, true, true, true, true, true, true, true, true, true, true] rfl rfl (any_of HT_.out (by kernel_rfl)) (fun _ _ _ h => h) (Or.inl ⟨by rfl, ?_⟩) ?_ ?_
                rotate_left
                ·intro w'
                 go_simp
                 with_reducible rfl
                rotate_left
                ·simp only [Act.put, sB, i64_w, i32_w]
                 rfl
                refine done_ (done_of HT_.out (by kernel_rfl)) ?_
                try go_wp2
                go_ret
                exact ⟨by first | rfl | (simp [*] <;> rfl), by repeat (first | (with_reducible first | exact HB.out | apply wa | apply wn | apply wd | refine ws ?_ GE233.out | refine ws ?_ GE234.out) | exact HB.out)⟩
               ·rw [if_neg c56] at H
                have c56b0 : (!(((rd_T78 l0_4 x7_4).f0) == ((rd_T78 l1_4 x7_4).f0)) || (!(((rd_T78 l0_4 x7_4).f1) == ((rd_T78 l1_4 x7_4).f1)) || (!(((rd_T78 l0_4 x7_4).f2) == ((rd_T78 l1_4 x7_4).f2)) || (!(((rd_T78 l0_4 x7_4).f3) == ((rd_T78 l1_4 x7_4).f3)))))) = false := by simpa using c56
                clear c56
                have H' := asd H
                clear H
                have hnb60 := NB233_234.out
                have hnc60 := NB234_233.out
                have hcz61_0 : wr.cell? ⟨gb233, 0, none⟩ = some (.int .i64 a0_0) := (blk_cell BK233.out 0).trans rfl
                have hcz61_1 : wr.cell? ⟨gb233, 1, none⟩ = some (.int .i64 a0_1) := (blk_cell BK233.out 1).trans rfl
                have hcz61_2 : wr.cell? ⟨gb233, 2, none⟩ = some (.slice A0_2 l0_2.length c0_2) := (blk_cell BK233.out 2).trans rfl
                have hcz61_3 : wr.cell? ⟨gb233, 3, none⟩ = some (.slice A0_3 l0_3.length c0_3) := (blk_cell BK233.out 3).trans rfl
                have hcz61_4 : wr.cell? ⟨gb233, 4, none⟩ = some (.slice A0_4 l0_4.length c0_4) := (blk_cell BK233.out 4).trans rfl
                have hfz61_0 := blk_frozen BK233.out 0
                have hfz61_1 := blk_frozen BK233.out 1
                have hfz61_2 := blk_frozen BK233.out 2
                have hfz61_3 := blk_frozen BK233.out 3
                have hfz61_4 := blk_frozen BK233.out 4
                try go_wp2
                have n0_ := asd (blk_drew BK233.out)
                have n1_ := asd (blk_drew BK234.out)
                have n2_ := asd (below_drew1 HB.out)
                clear BK233
                clear BK234
                clear HB
                have BK233 := n0_
                have BK234 := n1_
                have HB := n2_
                clear n0_ n1_ n2_
                have p240 : 0 ≤ (x7_4 : Int) := of_decide_eq_true (by assumption)
                have q240 : x7_4 < (l0_4.length : Int) := of_decide_eq_true (by assumption)
                obtain ⟨ad240, e240, hx240_0, hx240_1, hx240_2, hx240_3⟩ := at_T78 HR0_4.out x7_4 p240 q240
                have hw240_3 := hx240_3
                have hw240_2 := hx240_2
                have hw240_1 := hx240_1
                have hw240_0 := hx240_0
                cases e240
                replace hx240_0 := (HB.out.cell (World.block_lt_of_cell? w _ hx240_0)).trans hx240_0
                replace hx240_1 := (HB.out.cell (World.block_lt_of_cell? w _ hx240_1)).trans hx240_1
                replace hx240_2 := (HB.out.cell (World.block_lt_of_cell? w _ hx240_2)).trans hx240_2
                replace hx240_3 := (HB.out.cell (World.block_lt_of_cell? w _ hx240_3)).trans hx240_3
                replace p240 := eq_true p240
                replace q240 := eq_true q240
                have p241 : 0 ≤ (x7_4 : Int) := of_decide_eq_true (by assumption)
                have q241 : x7_4 < (l1_4.length : Int) := of_decide_eq_true (by assumption)
                obtain ⟨ad241, e241, hx241_0, hx241_1, hx241_2, hx241_3⟩ := at_T78 HR1_4.out x7_4 p241 q241
                have hw241_3 := hx241_3
                have hw241_2 := hx241_2
                have hw241_1 := hx241_1
                have hw241_0 := hx241_0
                cases e241
                replace hx241_0 := (HB.out.cell (World.block_lt_of_cell? w _ hx241_0)).trans hx241_0
                replace hx241_1 := (HB.out.cell (World.block_lt_of_cell? w _ hx241_1)).trans hx241_1
                replace hx241_2 := (HB.out.cell (World.block_lt_of_cell? w _ hx241_2)).trans hx241_2
                replace hx241_3 := (HB.out.cell (World.block_lt_of_cell? w _ hx241_3)).trans hx241_3
                replace p241 := eq_true p241
                replace q241 := eq_true q241
                refine start_ (n := 11) (S := fun w' => w'.cell? ⟨gb233, 0, none⟩ = some (.int .i64 a0_0) ∧ w'.cell? ⟨gb233, 1, none⟩ = some (.int .i64 a0_1) ∧ w'.cell? ⟨gb233, 2, none⟩ = some (.slice A0_2 l0_2.length c0_2) ∧ w'.cell? ⟨gb233, 3, none⟩ = some (.slice A0_3 l0_3.length c0_3) ∧ w'.cell? ⟨gb233, 4, none⟩ = some (.slice (some ad240) l0_4.length c0_4) ∧ w'.cell? ⟨gb234, 0, none⟩ = some (.int .i64 a1_0) ∧ w'.cell? ⟨gb234, 1, none⟩ = some (.int .i64 a1_1) ∧ w'.cell? ⟨gb234, 2, none⟩ = some (.slice A1_2 l1_2.length c1_2) ∧ w'.cell? ⟨gb234, 3, none⟩ = some (.slice A1_3 l1_3.length c1_3) ∧ w'.cell? ⟨gb234, 4, none⟩ = some (.slice (some ad241) l1_4.length c1_4) ∧ w'.cell? (ad240.add ((x7_4).toNat * 4)) = some (.bool ((rd_T78 l0_4 x7_4).f0)) ∧ w'.cell? ⟨(ad240.add ((x7_4).toNat * 4)).block, (ad240.add ((x7_4).toNat * 4)).off + 1, none⟩ = some (.int .i64 ((rd_T78 l0_4 x7_4).f1)) ∧ w'.cell? ⟨(ad240.add ((x7_4).toNat * 4)).block, (ad240.add ((x7_4).toNat * 4)).off + 2, none⟩ = some (.int .i64 ((rd_T78 l0_4 x7_4).f2)) ∧ w'.cell? ⟨(ad240.add ((x7_4).toNat * 4)).block, (ad240.add ((x7_4).toNat * 4)).off + 3, none⟩ = some (.int .i64 ((rd_T78 l0_4 x7_4).f3)) ∧ w'.cell? (ad241.add ((x7_4).toNat * 4)) = some (.bool ((rd_T78 l1_4 x7_4).f0)) ∧ w'.cell? ⟨(ad241.add ((x7_4).toNat * 4)).block, (ad241.add ((x7_4).toNat * 4)).off + 1, none⟩ = some (.int .i64 ((rd_T78 l1_4 x7_4).f1)) ∧ w'.cell? ⟨(ad241.add ((x7_4).toNat * 4)).block, (ad241.add ((x7_4).toNat * 4)).off + 2, none⟩ = some (.int .i64 ((rd_T78 l1_4 x7_4).f2)) ∧ w'.cell? ⟨(ad241.add ((x7_4).toNat * 4)).block, (ad241.add ((x7_4).toNat * 4)).off + 3, none⟩ = some (.int .i64 ((rd_T78 l1_4 x7_4).f3))) (ds := []) #[false, false, false, false, false, false, false, false, false, false, false] (by kernel_rfl) rfl rfl ⟨(blk_cell BK233.out 0).trans rfl, (blk_cell BK233.out 1).trans rfl, (blk_cell BK233.out 2).trans rfl, (blk_cell BK233.out 3).trans rfl, (blk_cell BK233.out 4).trans rfl, (blk_cell BK234.out 0).trans rfl, (blk_cell BK234.out 1).trans rfl, (blk_cell BK234.out 2).trans rfl, (blk_cell BK234.out 3).trans rfl, (blk_cell BK234.out 4).trans rfl, ((HB.out.cell (World.block_lt_of_cell? w _ hw240_0)).trans hw240_0), ((HB.out.cell (World.block_lt_of_cell? w _ hw240_1)).trans hw240_1), ((HB.out.cell (World.block_lt_of_cell? w _ hw240_2)).trans hw240_2), ((HB.out.cell (World.block_lt_of_cell? w _ hw240_3)).trans hw240_3), ((HB.out.cell (World.block_lt_of_cell? w _ hw241_0)).trans hw241_0), ((HB.out.cell (World.block_lt_of_cell? w _ hw241_1)).trans hw241_1), ((HB.out.cell (World.block_lt_of_cell? w _ hw241_2)).trans hw241_2), ((HB.out.cell (World.block_lt_of_cell? w _ hw241_3)).trans hw241_3)⟩ (fun hHeld => ?_); refine with_tabW parcloseref03_Same.tab16 parcloseref03_Same.bits16 (fun HT_ HW_ => ?_)
                generalize wr.drew = w62 at BK233 BK234 HB hx240_0 hx240_1 hx240_2 hx240_3 hx241_0 hx241_1 hx241_2 hx241_3 hHeld ⊢
                refine pure_ (i := 0) (N := some 91) (v := ?_) (a' := ?_) #[true, false, false, false, false, false, false, false, false, false, false] rfl rfl (any_of HT_.out (by kernel_rfl)) (fun _ _ _ h => h) (Or.inl ⟨by rfl, ?_⟩) ?_ ?_
                rotate_left
                ·intro w'
                 go_simp
                 with_reducible rfl
                rotate_left
                ·simp only [Act.put, sB, i64_w, i32_w]
                 rfl
                refine pure_ (i := 2) (N := some 93) (v := ?_) (a' := ?_) #[true, false, true, false, false, false, false, false, false, false, false] rfl rfl (any_of HT_.out (by kernel_rfl)) (fun _ _ _ h => h) (Or.inl ⟨by rfl, ?_⟩) ?_ ?_
                rotate_left
                ·intro w'
                 go_simp
                 with_reducible rfl
                rotate_left
                ·simp only [Act.put, sB, i64_w, i32_w]
                 rfl
                refine pure_ (i := 5) (N := some 96) (v := ?_) (a' := ?_) #[true, false, true, false, false, true, false, false, false, false, false] rfl rfl (any_of HT_.out (by kernel_rfl)) (fun _ _ _ h => h) (Or.inl ⟨by rfl, ?_⟩) ?_ ?_
                rotate_left
                ·intro w'
                 go_simp
                 with_reducible rfl
                rotate_left
                ·simp only [Act.put, sB, i64_w, i32_w]
                 rfl
                refine pure_ (i := 7) (N := some 98) (v := ?_) (a' := ?_) #[true, false, true, false, false, true, false, true, false, false, false] rfl rfl (any_of HT_.out (by kernel_rfl)) (fun _ _ _ h => h) (Or.inl ⟨by rfl, ?_⟩) ?_ ?_
                rotate_left
                ·intro w'
                 go_simp
                 with_reducible rfl
                rotate_left
                ·simp only [Act.put, sB, i64_w, i32_w]
                 rfl
                refine take_ (i := 1) (N := some 92) (v := ?_) (a' := ?_) #[true, true, true, false, false, true, false, true, false, false, false] rfl rfl (take_ofW HT_.out HW_.out (by kernel_rfl)) (fun _ _ _ h => h) (Or.inl ⟨by rfl, ?_⟩) hHeld ?_ ?_
                rotate_left
                ·rintro w' ⟨s0, s1, s2, s3, s4, s5, s6, s7, s8, s9, s10, s11, s12, s13, s14, s15, s16, s17⟩
                 go_simp
                 with_reducible rfl
                rotate_left
                ·simp only [Act.put, sB, i64_w, i32_w]
                 rfl
                refine pure_ (i := 3) (N := some 94) (v := ?_) (a' := ?_) #[true, true, true, true, false, true, false, true, false, false, false] rfl rfl (any_of HT_.out (by kernel_rfl)) (fun _ _ _ h => h) (Or.inl ⟨by rfl, ?_⟩) ?_ ?_
                rotate_left
                ·intro w'
                 go_simp
                 with_reducible rfl
                rotate_left
                ·simp only [Act.put, sB, i64_w, i32_w]
                 rfl
                refine take_ (i := 4) (N := some 95) (v := ?_) (a' := ?_) #[true, true, true, true, true, true, false, true, false, false, false] rfl rfl (take_ofW HT_.out HW_.out (by kernel_rfl)) (fun _ _ _ h => h) (Or.inl ⟨by rfl, ?_⟩) hHeld ?_ ?_
                rotate_left
                ·rintro w' ⟨s0, s1, s2, s3, s4, s5, s6, s7, s8, s9, s10, s11, s12, s13, s14, s15, s16, s17⟩
                 go_simp
                 with_reducible rfl
                rotate_left
                ·simp only [Act.put, sB, i64_w, i32_w]
                 rfl
                refine take_ (i := 6) (N := some 97) (v := ?_) (a' := ?_) #[true, true, true, true, true, true, true, true, false, false, false] rfl rfl (take_ofW HT_.out HW_.out (by kernel_rfl)) (fun _ _ _ h => h) (Or.inl ⟨by rfl, ?_⟩) hHeld ?_ ?_
                rotate_left
                ·rintro w' ⟨s0, s1, s2, s3, s4, s5, s6, s7, s8, s9, s10, s11, s12, s13, s14, s15, s16, s17⟩
                 go_simp
                 with_reducible rfl
                rotate_left
                ·simp only [Act.put, sB, i64_w, i32_w]
                 rfl
                refine pure_ (i := 8) (N := some 99) (v := ?_) (a' := ?_) #[true, true, true, true, true, true, true, true, true, false, false] rfl rfl (any_of HT_.out (by kernel_rfl)) (fun _ _ _ h => h) (Or.inl ⟨by rfl, ?_⟩) ?_ ?_
                rotate_left
                ·intro w'
                 go_simp
                 with_reducible rfl
                rotate_left
                ·simp only [Act.put, sB, i64_w, i32_w]
                 rfl
                refine take_ (i := 9) (N := some 100) (v := ?_) (a' := ?_) #[true, true, true, true, true, true, true, true, true, true, false] rfl rfl (take_ofW HT_.out HW_.out (by kernel_rfl)) (fun _ _ _ h => h) (Or.inl ⟨by rfl, ?_⟩) hHeld ?_ ?_
                rotate_left
                ·rintro w' ⟨s0, s1, s2, s3, s4, s5, s6, s7, s8, s9, s10, s11, s12, s13, s14, s15, s16, s17⟩
                 go_simp
                 with_reducible rfl
                rotate_left
                ·simp only [Act.put, sB, i64_w, i32_w]
                 rfl
                refine pure_ (i := 10) (N := some 101) (v := ?_) (a' := ?_) #[true, true, true, true, true, true, true, true, true, true, true] rfl rfl (any_of HT_.out (by kernel_rfl)) (fun _ _ _ h => h) (Or.inl ⟨by rfl, ?_⟩) ?_ ?_
                rotate_left
                ·intro w'
                 go_simp
                 with_reducible rfl
                rotate_left
                ·simp only [Act.put, sB, i64_w, i32_w]
                 rfl
                refine done_ (done_of HT_.out (by kernel_rfl)) ?_
                try go_wp2
                go_roundg k4
                case measure => have := HJ2.out; have := HK2.out; have := HK3.out; have := HK4.out; omega
                case rel => exact ⟨(wrap64 (x7_4 + 1)), (by first | rfl | (simp; done) | (simp [*]; done)), H', ⟨by have := HJ2.out; have := HK2.out; have := HK3.out; have := HK4.out; omega⟩, ⟨by (with_reducible repeat first | apply bn | apply bd | apply ba); exact BK233.out⟩, ⟨by (with_reducible repeat first | apply bn | apply bd | apply ba); exact BK234.out⟩, ⟨by repeat (first | (with_reducible first | exact HB.out | apply wa | apply wn | apply wd | refine ws ?_ GE233.out | refine ws ?_ GE234.out) | exact HB.out)⟩⟩
              ·rw [if_neg c55] at H
               exact absurd H (by simp)
             ·rw [if_neg c54] at H
              exact absurd H (by simp)
            ·rw [if_neg c53] at H
             have c53b0 : decide (x7_4 < (l0_4.length : Int)) = false := decide_eq_false c53
             clear c53
             obtain rfl := Option.some.inj H
             have hnb63 := NB233_234.out
             have hnc63 := NB234_233.out
             have hcz64_0 : wr.cell? ⟨gb233, 0, none⟩ = some (.int .i64 a0_0) := (blk_cell BK233.out 0).trans rfl
             have hcz64_1 : wr.cell? ⟨gb233, 1, none⟩ = some (.int .i64 a0_1) := (blk_cell BK233.out 1).trans rfl
             have hcz64_2 : wr.cell? ⟨gb233, 2, none⟩ = some (.slice A0_2 l0_2.length c0_2) := (blk_cell BK233.out 2).trans rfl
             have hcz64_3 : wr.cell? ⟨gb233, 3, none⟩ = some (.slice A0_3 l0_3.length c0_3) := (blk_cell BK233.out 3).trans rfl
             have hcz64_4 : wr.cell? ⟨gb233, 4, none⟩ = some (.slice A0_4 l0_4.length c0_4) := (blk_cell BK233.out 4).trans rfl
             have hfz64_0 := blk_frozen BK233.out 0
             have hfz64_1 := blk_frozen BK233.out 1
             have hfz64_2 := blk_frozen BK233.out 2
             have hfz64_3 := blk_frozen BK233.out 3
             have hfz64_4 := blk_frozen BK233.out 4
             go_wp2
             go_ret
             exact ⟨by first | rfl | (simp [*] <;> rfl), by repeat (first | (with_reducible first | exact HB.out | apply wa | apply wn | apply wd | refine ws ?_ GE233.out | refine ws ?_ GE234.out) | exact HB.out)⟩
end Go.Proofs.Ytmjhnmdmopmfjaa.Fn
namespace Go.Proofs.Ytmjhnmdmopmfjaa.Fn
open Go.RowKit Go.Proofs.YtmjhnmdmopmfjaaW.PrintWords Go.Proofs.YtmjhnmdmopmfjaaW.PrintLast Go.Proofs.YtmjhnmdmopmfjaaW.PrintMore
attribute [local go_sem] max2_int min2_int max_two min_two max_three min_three max_four min_four
set_option linter.unusedVariables false
set_option linter.unusedSimpArgs false
mutual
def parcloselaw03_RefPart.l0 : Nat → Int → List (S51) → List (S53) → List Int → Int → Int → Int → List (S56) → List Int → Int → Int → Int → Option ((List (S56)) × (List (S57)) × List Int × Int × Int × Int)
 | 0, _, _, _, _, _, _, _, _, _, _, _, _ => none
 | k + 1, x4, x243000, x243001, x243002, x243003, x243004, x243005, x251000, x251002, x251003, x251004, x251005 => if x4 < (x243000.length : Int) then (if 0 ≤ x4 then (if x251000.length < 2932031007402 then (parcloselaw03_RefPart.l0 k (wrap64 (x4 + 1)) x243000 x243001 x243002 x243003 x243004 x243005 (x251000 ++ [(⟨(rd_T51 x243000 x4).f0, (rd_T51 x243000 x4).f1, (rd_T51 x243000 x4).f2, (rd_T51 x243000 x4).f3, (rd_T51 x243000 x4).f4, (rd_T51 x243000 x4).f5⟩ : S56)]) x251002 x251003 x251004 x251005) else (none)) else (none)) else (parcloselaw03_RefPart.l1 k 0 x243000 x243001 x243002 x243003 x243004 x243005 x251000 ([] : List (S57)) x251002 x251003 x251004 x251005)
def parcloselaw03_RefPart.l1 : Nat → Int → List (S51) → List (S53) → List Int → Int → Int → Int → List (S56) → List (S57) → List Int → Int → Int → Int → Option ((List (S56)) × (List (S57)) × List Int × Int × Int × Int)
 | 0, _, _, _, _, _, _, _, _, _, _, _, _, _ => none
 | k + 1, x5, x243000, x243001, x243002, x243003, x243004, x243005, x251000, x251001, x251002, x251003, x251004, x251005 => if x5 < (x243001.length : Int) then (if 0 ≤ x5 then (if x251001.length < 5864062014805 then (parcloselaw03_RefPart.l1 k (wrap64 (x5 + 1)) x243000 x243001 x243002 x243003 x243004 x243005 x251000 (x251001 ++ [(⟨(rd_T53 x243001 x5).f0, (rd_T53 x243001 x5).f1, (rd_T53 x243001 x5).f2⟩ : S57)]) x251002 x251003 x251004 x251005) else (none)) else (none)) else (some (x251000, x251001, x251002, x251003, x251004, x251005))
end
def parcloselaw03_RefPart.f (k : Nat) (l0_0 : List (S51)) (l0_1 : List (S53)) (l0_2 : List Int) (a0_3 : Int) (a0_4 : Int) (a0_5 : Int) : Option ((List (S56)) × (List (S57)) × List Int × Int × Int × Int) := (some (([] : List Int) : List Int)).bind fun y244 => (if y244.length + l0_2.length < 17592186044416 then (parcloselaw03_RefPart.l0 k 0 l0_0 l0_1 l0_2 a0_3 a0_4 a0_5 ([] : List (S56)) (y244 ++ l0_2) a0_3 a0_4 a0_5) else (none))
def parcloselaw03_RefPart.T1 : Bool × List (List Nat × List Nat) := (true, [([], []), ([], []), ([1], [1]), ([0, 2], [0, 2]), ([], []), ([4], [4]), ([3, 5], [3, 5]), ([], []), ([7, 6, 3, 0, 1, 2, 3, 4, 5, 6, 7], [6, 7])])
def parcloselaw03_RefPart.B1 : List Nat := [0, 0, 2, 7, 0, 16, 63, 0, 255]
theorem parcloselaw03_RefPart.tab1 : rtab .any (opsOf Try.f56 1) = parcloselaw03_RefPart.T1 := by kernel_rfl
theorem parcloselaw03_RefPart.bits1 : waitsOk parcloselaw03_RefPart.T1.2 parcloselaw03_RefPart.B1 = true := by kernel_rfl
def parcloselaw03_RefPart.T5 : Bool × List (List Nat × List Nat) := (true, [([], []), ([0], [0]), ([], []), ([2], [2]), ([], []), ([3, 4], [3, 4]), ([5], [5]), ([6], [6]), ([1, 7], [1, 7]), ([0, 1, 2, 3, 4, 5, 6, 7, 8], []), ([9, 8, 8, 0, 1, 2, 3, 4, 5, 6, 7, 8], [8, 9])])
def parcloselaw03_RefPart.B5 : List Nat := [0, 1, 0, 4, 0, 28, 60, 124, 255, 511, 1023]
theorem parcloselaw03_RefPart.tab5 : rtab .any (opsOf Try.f56 5) = parcloselaw03_RefPart.T5 := by kernel_rfl
theorem parcloselaw03_RefPart.bits5 : waitsOk parcloselaw03_RefPart.T5.2 parcloselaw03_RefPart.B5 = true := by kernel_rfl
def parcloselaw03_RefPart.T9 : Bool × List (List Nat × List Nat) := (true, [([], []), ([0], [0]), ([], []), ([2], [2]), ([], []), ([3, 4], [3, 4]), ([5], [5]), ([6], [6]), ([1, 7], [1, 7]), ([0, 1, 2, 3, 4, 5, 6, 7, 8], []), ([9, 8, 8, 0, 1, 2, 3, 4, 5, 6, 7, 8], [8, 9])])
def parcloselaw03_RefPart.B9 : List Nat := [0, 1, 0, 4, 0, 28, 60, 124, 255, 511, 1023]
theorem parcloselaw03_RefPart.tab9 : rtab .any (opsOf Try.f56 9) = parcloselaw03_RefPart.T9 := by kernel_rfl
theorem parcloselaw03_RefPart.bits9 : waitsOk parcloselaw03_RefPart.T9.2 parcloselaw03_RefPart.B9 = true := by kernel_rfl
set_option maxHeartbeats 8000000 in
set_option maxRecDepth 100000 in
theorem parcloselaw03_RefPart.calls (k : Nat) (A0_0 : Option Addr) (c0_0 : Nat) (l0_0 : List (S51)) (A0_1 : Option Addr) (c0_1 : Nat) (l0_1 : List (S53)) (A0_2 : Option Addr) (c0_2 : Nat) (l0_2 : List Int) (a0_3 : Int) (a0_4 : Int) (a0_5 : Int) (r1 : List (S56)) (r2 : List (S57)) (r3 : List Int) (r4 : Int) (r5 : Int) (r6 : Int) (w : World) (hr0_0 : Kd.C k51 w A0_0 l0_0.length l0_0) (hc0_0 : l0_0.length ≤ c0_0) (hr0_1 : Kd.C k53 w A0_1 l0_1.length l0_1) (hc0_1 : l0_1.length ≤ c0_1) (hr0_2 : Kd.C (Kd.int .i64) w A0_2 l0_2.length l0_2) (hc0_2 : l0_2.length ≤ c0_2) (h : parcloselaw03_RefPart.f k l0_0 l0_1 l0_2 a0_3 a0_4 a0_5 = some (r1, r2, r3, r4, r5, r6)) :
  Calls Try.prog 56 #[.agg #[.slice A0_0 l0_0.length c0_0, .slice A0_1 l0_1.length c0_1, .slice A0_2 l0_2.length c0_2, .int .u8 a0_3, .int .u8 a0_4, .int .u8 a0_5]] w fun e w' => ∃ v0_ v1_ v2_ : Value, e = .returned (.agg #[v0_, v1_, v2_, .int .u8 r4, .int .u8 r5, .int .u8 r6]) ∧ Kd.R k56 56 w' w.heap.size (fun _ => True) v0_ r1 ∧ Kd.R k57 57 w' w.heap.size (fun _ => True) v1_ r2 ∧ Kd.R (Kd.int .i64) 3 w' w.heap.size (fun _ => True) v2_ r3 ∧ Below w.heap.size w w' := by
 have hu49 := Try.underlying49
 have hu61 := Try.underlying61
 have hu47 := Try.underlying47
 have hu51 := Try.underlying51
 have hu53 := Try.underlying53
 have HR0_0 := asd hr0_0
 have HC0_0 := asd hc0_0
 clear hr0_0 hc0_0
 have HR0_1 := asd hr0_1
 have HC0_1 := asd hc0_1
 clear hr0_1 hc0_1
 have HR0_2 := asd hr0_2
 have HC0_2 := asd hc0_2
 clear hr0_2 hc0_2
 have HB := asd (Below.refl w.heap.size w)
 have H : ((some (([] : List Int) : List Int)).bind fun y244 => (if y244.length + l0_2.length < 17592186044416 then (parcloselaw03_RefPart.l0 k 0 l0_0 l0_1 l0_2 a0_3 a0_4 a0_5 ([] : List (S56)) (y244 ++ l0_2) a0_3 a0_4 a0_5) else (none))) = some (r1, r2, r3, r4, r5, r6) := h
 clear h
 obtain ⟨y244, hy244⟩ : ∃ y_ : List Int, y_ = (([] : List Int)) := ⟨_, rfl⟩
 replace H : (if y244.length + l0_2.length < 17592186044416 then (parcloselaw03_RefPart.l0 k 0 l0_0 l0_1 l0_2 a0_3 a0_4 a0_5 ([] : List (S56)) (y244 ++ l0_2) a0_3 a0_4 a0_5) else (none)) = some (r1, r2, r3, r4, r5, r6) := by first | (rw [hy244]; with_reducible exact H) | (have H2_ := (Option.bind_some _ _).symm.trans H; rw [hy244]; with_reducible exact H2_) | (have H2_ := (Option.bind_some _ _).symm.trans H; with_reducible exact H2_) | with_reducible exact H | (rw [hy244]; exact H) | exact H
 have Ny244 := asd hy244
 clear hy244
 by_cases c2 : y244.length + l0_2.length < 17592186044416
 ·rw [if_pos c2] at H
  have LMc2 := asd c2
  clear c2
  obtain ⟨y247, hy247⟩ : ∃ y_ : List Int, y_ = (y244 ++ l0_2) := ⟨_, rfl⟩
  replace H : (parcloselaw03_RefPart.l0 k 0 l0_0 l0_1 l0_2 a0_3 a0_4 a0_5 ([] : List (S56)) y247 a0_3 a0_4 a0_5) = some (r1, r2, r3, r4, r5, r6) := by first | (rw [hy247]; with_reducible exact H) | (have H2_ := (Option.bind_some _ _).symm.trans H; rw [hy247]; with_reducible exact H2_) | (have H2_ := (Option.bind_some _ _).symm.trans H; with_reducible exact H2_) | with_reducible exact H | (rw [hy247]; exact H) | exact H
  have Ny247 := asd hy247
  clear hy247
  have H' := asd H
  clear H
  go_enter Try.func56, Try.ntmps56
  try go_wp2_with (first | ((with_reducible refine gate_dst (N := 1) rfl ?_); refine box_event ?hg (N := 1) ?hd (cs := #[.slice A0_0 l0_0.length c0_0, .slice A0_1 l0_1.length c0_1, .slice A0_2 l0_2.length c0_2, .int .u8 a0_3, .int .u8 a0_4, .int .u8 a0_5]) (t := 49) ?hr ?_; (case hd => rfl); (case hg => rfl); (case hr => first | (go_simp; done) | (go_simp; rfl)); intro gb242 hg w3 hbox hb; have n0_ := asd (below_step (by repeat (first | (with_reducible first | exact HB.out | apply wa | apply wn | apply wd) | exact HB.out)) hb); have n1_ := asd (hbox); have n2_ := asd ((by rw [hg]; exact (below_size (by repeat (first | (with_reducible first | exact HB.out | apply wa | apply wn | apply wd) | exact HB.out))) : w.heap.size ≤ gb242)); have n3_ := asd ((by rw [hg]; exact (below_size (by repeat (first | (with_reducible first | exact HB.out | apply wa | apply wn | apply wd) | exact HB.out))) : w.heap.size ≤ gb242)); clear HB; have HB := n0_; have BK242 := n1_; have GW242 := n2_; have GE242 := n3_; clear n0_ n1_ n2_ n3_; clear hb hbox hg) | ((with_reducible refine gate_dst (N := 2) rfl ?_); refine box_event ?hg (N := 2) ?hd (cs := #[.slice none 0 0, .slice none 0 0, .slice none 0 0, .int .u8 0, .int .u8 0, .int .u8 0]) (t := 61) ?hr ?_; (case hd => rfl); (case hg => rfl); (case hr => first | (go_simp; done) | (go_simp; rfl)); intro gb243 hg w4 hbox hb; have n0_ := asd (blk_below (g := gb242) (o := .cells #[.slice A0_0 l0_0.length c0_0, .slice A0_1 l0_1.length c0_1, .slice A0_2 l0_2.length c0_2, .int .u8 a0_3, .int .u8 a0_4, .int .u8 a0_5] 49 (0, 0)) (by (with_reducible repeat first | apply bn | apply bd | apply ba); exact BK242.out) hb); have n1_ := asd (below_step (by repeat (first | (with_reducible first | exact HB.out | apply wa | apply wn | apply wd | refine ws ?_ GE242.out) | exact HB.out)) hb); have n2_ := asd (hbox); have n3_ := asd ((by rw [hg]; exact (below_size (by repeat (first | (with_reducible first | exact HB.out | apply wa | apply wn | apply wd | refine ws ?_ GE242.out) | exact HB.out))) : w.heap.size ≤ gb243)); have n4_ := asd ((by rw [hg]; exact (below_size (by repeat (first | (with_reducible first | exact HB.out | apply wa | apply wn | apply wd | refine ws ?_ GE242.out) | exact HB.out))) : w.heap.size ≤ gb243)); have n5_ := asd ((by rw [hg]; exact Nat.ne_of_lt (blk_lt (g := gb242) (o := .cells #[.slice A0_0 l0_0.length c0_0, .slice A0_1 l0_1.length c0_1, .slice A0_2 l0_2.length c0_2, .int .u8 a0_3, .int .u8 a0_4, .int .u8 a0_5] 49 (0, 0)) (by (with_reducible repeat first | apply bn | apply bd | apply ba); exact BK242.out)) : gb242 ≠ gb243)); have n6_ := asd ((by rw [hg]; exact Nat.ne_of_gt (blk_lt (g := gb242) (o := .cells #[.slice A0_0 l0_0.length c0_0, .slice A0_1 l0_1.length c0_1, .slice A0_2 l0_2.length c0_2, .int .u8 a0_3, .int .u8 a0_4, .int .u8 a0_5] 49 (0, 0)) (by (with_reducible repeat first | apply bn | apply bd | apply ba); exact BK242.out)) : gb243 ≠ gb242)); clear BK242; clear HB; have BK242 := n0_; have HB := n1_; have BK243 := n2_; have GW243 := n3_; have GE243 := n4_; have NB242_243 := n5_; have NB243_242 := n6_; clear n0_ n1_ n2_ n3_ n4_ n5_ n6_; clear hb hbox hg))
  have n0_ := asd (blk_drew BK242.out)
  have n1_ := asd (blk_drew BK243.out)
  have n2_ := asd (below_drew1 HB.out)
  clear BK242
  clear BK243
  clear HB
  have BK242 := n0_
  have BK243 := n1_
  have HB := n2_
  clear n0_ n1_ n2_
  refine start_ (n := 9) (S := fun w' => w'.cell? ⟨gb242, 0, none⟩ = some (.slice A0_0 l0_0.length c0_0) ∧ w'.cell? ⟨gb242, 1, none⟩ = some (.slice A0_1 l0_1.length c0_1) ∧ w'.cell? ⟨gb242, 2, none⟩ = some (.slice A0_2 l0_2.length c0_2) ∧ w'.cell? ⟨gb242, 3, none⟩ = some (.int .u8 a0_3) ∧ w'.cell? ⟨gb242, 4, none⟩ = some (.int .u8 a0_4) ∧ w'.cell? ⟨gb242, 5, none⟩ = some (.int .u8 a0_5)) (ds := []) #[false, false, false, false, false, false, false, false, false] (by kernel_rfl) rfl rfl ⟨(blk_cell BK242.out 0).trans rfl, (blk_cell BK242.out 1).trans rfl, (blk_cell BK242.out 2).trans rfl, (blk_cell BK242.out 3).trans rfl, (blk_cell BK242.out 4).trans rfl, (blk_cell BK242.out 5).trans rfl⟩ (fun hHeld => ?_); refine with_tabW parcloselaw03_RefPart.tab1 parcloselaw03_RefPart.bits1 (fun HT_ HW_ => ?_)
  generalize w4.drew = w5 at BK242 BK243 HB hHeld ⊢
  refine pure_ (i := 1) (N := some 7) (v := ?_) (a' := ?_) #[false, true, false, false, false, false, false, false, false] rfl rfl (any_of HT_.out (by kernel_rfl)) (fun _ _ _ h => h) (Or.inl ⟨by rfl, ?_⟩) ?_ ?_
  rotate_left
  ·intro w'
   go_simp
   with_reducible rfl
  rotate_left
  ·simp only [Act.put, sB, i64_w, i32_w]
   rfl
  refine pure_ (i := 4) (N := some 10) (v := ?_) (a' := ?_) #[false, true, false, false, true, false, false, false, false] rfl rfl (any_of HT_.out (by kernel_rfl)) (fun _ _ _ h => h) (Or.inl ⟨by rfl, ?_⟩) ?_ ?_
  rotate_left
  ·intro w'
   go_simp
   with_reducible rfl
  rotate_left
  ·simp only [Act.put, sB, i64_w, i32_w]
   rfl
  refine take_ (i := 2) (N := some 8) (v := ?_) (a' := ?_) #[false, true, true, false, true, false, false, false, false] rfl rfl (take_ofW HT_.out HW_.out (by kernel_rfl)) (fun _ _ _ h => h) (Or.inl ⟨by rfl, ?_⟩) hHeld ?_ ?_
  rotate_left
  ·rintro w' ⟨s0, s1, s2, s3, s4, s5⟩
   go_simp
   with_reducible rfl
  rotate_left
  ·simp only [Act.put, sB, i64_w, i32_w]
   rfl
  refine take_ (i := 5) (N := some 11) (v := ?_) (a' := ?_) #[false, true, true, false, true, true, false, false, false] rfl rfl (take_ofW HT_.out HW_.out (by kernel_rfl)) (fun _ _ _ h => h) (Or.inl ⟨by rfl, ?_⟩) hHeld ?_ ?_
  rotate_left
  ·rintro w' ⟨s0, s1, s2, s3, s4, s5⟩
   go_simp
   with_reducible rfl
  rotate_left
  ·simp only [Act.put, sB, i64_w, i32_w]
   rfl
  refine join_ (σ := Value × Value × Nat) 1 #[true, true, true, true, true, true, true, true, false] (fun s_ => [(6, s_.1), (9, s_.2.1), (3, .pointer (some ⟨s_.2.2, 0, none⟩)), (12, .agg #[.slice none 0 0, .slice none 0 0, s_.2.1, .int .u8 a0_3, .int .u8 a0_4, .int .u8 a0_5])]) (fun s_ w' => (w'.cell? ⟨gb242, 0, none⟩ = some (.slice A0_0 l0_0.length c0_0) ∧ w'.cell? ⟨gb242, 1, none⟩ = some (.slice A0_1 l0_1.length c0_1) ∧ w'.cell? ⟨gb242, 2, none⟩ = some (.slice A0_2 l0_2.length c0_2) ∧ w'.cell? ⟨gb242, 3, none⟩ = some (.int .u8 a0_3) ∧ w'.cell? ⟨gb242, 4, none⟩ = some (.int .u8 a0_4) ∧ w'.cell? ⟨gb242, 5, none⟩ = some (.int .u8 a0_5)) ∧ (Kd.R (Kd.int .i64) 3 w' w.heap.size (fun _ => True) s_.2.1 y247) ∧ (w'.heap[gb242]? = some (.cells #[.slice A0_0 l0_0.length c0_0, .slice A0_1 l0_1.length c0_1, .slice A0_2 l0_2.length c0_2, .int .u8 a0_3, .int .u8 a0_4, .int .u8 a0_5] 49 (0, 0))) ∧ (w'.heap[gb243]? = some (.cells #[.slice none 0 0, .slice none 0 0, .slice none 0 0, .int .u8 0, .int .u8 0, .int .u8 0] 61 (0, 0))) ∧ (w'.heap[s_.2.2]? = some (.cells #[.slice none 0 0, .slice none 0 0, .slice none 0 0, .int .u8 0, .int .u8 0, .int .u8 0] 61 (0, 0))) ∧ (w.heap.size ≤ s_.2.2) ∧ (w.heap.size ≤ s_.2.2) ∧ (gb242 ≠ s_.2.2) ∧ (s_.2.2 ≠ gb242) ∧ (gb243 ≠ s_.2.2) ∧ (s_.2.2 ≠ gb243) ∧ (Below w.heap.size w w')) ?_ ?_
  rotate_left
  ·intro hCont
   refine two_ (i := 0) (j := 7) (Ni := some 6) (Nj := some 3) #[true, true, true, false, true, true, false, false, false] #[false, true, true, false, true, true, false, true, false] rfl rfl rfl rfl (two_of HT_.out (by kernel_rfl)) (by decide) (by decide) (fun K hK => ?_) (fun K hK => ?_)
   ·skip
    refine Kd.R_lit_step (Kd.int .i64) _ 3 ?hg (N := 6) ?hd (xs := ([] : List Int)) (inner := []) (ok := fun _ => True) (okp := fun _ => True) ?hr ?hp (fun _ hk => hk) trivial (Below.refl _ _) (Nat.le_refl _) (by simp) ?_; (case hd => rfl); (case hg => rfl); (case hr => first | (go_simp; done) | (go_simp; rfl)); (case hp => exact (Reps.none _ _))
    intro v245 w6 ho7 hb hg_ hnew_
    clear hg_ hnew_
    (first | rw [← Ny244.out] at ho7 | (simp only [Int.reduceToNat] at ho7; rw [← Ny244.out] at ho7))
    have n0_ := asd (Kd.R_lower ho7 (below_size (by repeat (first | (with_reducible first | exact HB.out | apply wa | apply wn | apply wd | refine ws ?_ GE242.out | refine ws ?_ GE243.out) | exact HB.out))))
    have n1_ := asd (blk_below (g := gb242) (o := .cells #[.slice A0_0 l0_0.length c0_0, .slice A0_1 l0_1.length c0_1, .slice A0_2 l0_2.length c0_2, .int .u8 a0_3, .int .u8 a0_4, .int .u8 a0_5] 49 (0, 0)) (by (with_reducible repeat first | apply bn | apply bd | apply ba); exact BK242.out) hb)
    have n2_ := asd (blk_below (g := gb243) (o := .cells #[.slice none 0 0, .slice none 0 0, .slice none 0 0, .int .u8 0, .int .u8 0, .int .u8 0] 61 (0, 0)) (by (with_reducible repeat first | apply bn | apply bd | apply ba); exact BK243.out) hb)
    have n3_ := asd (below_step (by repeat (first | (with_reducible first | exact HB.out | apply wa | apply wn | apply wd | refine ws ?_ GE242.out | refine ws ?_ GE243.out) | exact HB.out)) hb)
    clear BK242
    clear BK243
    clear HB
    have HO246 := n0_
    have BK242 := n1_
    have BK243 := n2_
    have HB := n3_
    clear n0_ n1_ n2_ n3_
    clear hb ho7
    refine hK.out _ _ ⟨(blk_cell BK242.out 0).trans rfl, (blk_cell BK242.out 1).trans rfl, (blk_cell BK242.out 2).trans rfl, (blk_cell BK242.out 3).trans rfl, (blk_cell BK242.out 4).trans rfl, (blk_cell BK242.out 5).trans rfl⟩ (fun hHeld => ?_)
    clear hK K
    refine norm_ (a' := ?_) ?_ ?_
    rotate_left
    ·show Act.put _ (some 6) _ = _
     simp only [Act.put, sB, i64_w, i32_w]
     rfl
    refine two_ (i := 3) (j := 7) (Ni := some 9) (Nj := some 3) #[true, true, true, true, true, true, false, false, false] #[true, true, true, false, true, true, false, true, false] rfl rfl rfl rfl (two_of HT_.out (by kernel_rfl)) (by decide) (by decide) (fun K hK => ?_) (fun K hK => ?_)
    ·skip
     refine Kd.R_append_rows_step (Kd.int .i64) (w0 := w) w.heap.size (by rfl) (.tmp 6) (.tmp 8) 27 3 (.int .i64 0) 8 rfl Try.underlying27 info3 rfl (by decide) (by omega) v245 y244 l0_2 _ _ _ (fun _ => True) (fun _ => False) rfl rfl ?aO ?aR (fun _ _ h => h) (fun _ h => h.elim) ?aF ?aB ?aS ?aL ?_
     (case aR => repeat (first | exact (Kd.C_below HR0_2.out HB.out) | (with_reducible refine Kd.C_alloc ?_ _) | (with_reducible refine Kd.C_drewN ?_ _) | (with_reducible refine Kd.C_drew ?_)))
     (case aB => exact (by repeat (first | (with_reducible first | exact HB.out | apply wa | apply wn | apply wd | refine ws ?_ GE242.out | refine ws ?_ GE243.out) | exact HB.out)))
     (case aF => exact (fun _ _ => trivial))
     (case aO => exact (by (with_reducible repeat (first | apply Kd.R_alloc | apply Kd.R_drewN | apply Kd.R_drew)); exact HO246.out))
     (case aS => exact (below_size (by repeat (first | (with_reducible first | exact HB.out | apply wa | apply wn | apply wd | refine ws ?_ GE242.out | refine ws ?_ GE243.out) | exact HB.out))))
     (case aL => have := LMc2.out; omega)
     intro v248 w8 ho hb hg hat
     rw [← Ny247.out] at ho
     have n0_ := asd (blk_grown (g := gb242) (o := .cells #[.slice A0_0 l0_0.length c0_0, .slice A0_1 l0_1.length c0_1, .slice A0_2 l0_2.length c0_2, .int .u8 a0_3, .int .u8 a0_4, .int .u8 a0_5] 49 (0, 0)) (by (with_reducible repeat first | apply bn | apply bd | apply ba); exact BK242.out) hg (Kd.R_ne HO246.out BK242.out (by decide)))
     have n1_ := asd (blk_grown (g := gb243) (o := .cells #[.slice none 0 0, .slice none 0 0, .slice none 0 0, .int .u8 0, .int .u8 0, .int .u8 0] 61 (0, 0)) (by (with_reducible repeat first | apply bn | apply bd | apply ba); exact BK243.out) hg (Kd.R_ne HO246.out BK243.out (by decide)))
     have n2_ := asd (hb)
     have n3_ := asd (ho)
     clear BK242
     clear BK243
     clear HB
     clear HO246
     have BK242 := n0_
     have BK243 := n1_
     have HB := n2_
     have HO249 := n3_
     clear n0_ n1_ n2_ n3_
     clear ho hb hg hat
     obtain ⟨Ao9, co9, eo9⟩ := Kd.R_slice HO249.out
     (first | subst eo9 | (injection eo9 with f1_ f2_ f3_; have f4_ := f1_.symm; have f5_ := f3_.symm; clear f1_ f2_ f3_; subst f4_; subst f5_))
     refine hK.out _ _ ⟨(blk_cell BK242.out 0).trans rfl, (blk_cell BK242.out 1).trans rfl, (blk_cell BK242.out 2).trans rfl, (blk_cell BK242.out 3).trans rfl, (blk_cell BK242.out 4).trans rfl, (blk_cell BK242.out 5).trans rfl⟩ (fun hHeld => ?_)
     clear hK K
     refine norm_ (a' := ?_) ?_ ?_
     rotate_left
     ·show Act.put _ (some 9) _ = _
      simp only [Act.put, sB, i64_w, i32_w]
      rfl
     refine pure_ (i := 6) (N := some 12) (v := ?_) (a' := ?_) #[true, true, true, true, true, true, true, false, false] rfl rfl (any_of HT_.out (by kernel_rfl)) (fun _ _ _ h => h) (Or.inl ⟨by rfl, ?_⟩) ?_ ?_
     rotate_left
     ·intro w'
      go_simp
      with_reducible rfl
     rotate_left
     ·simp only [Act.put, sB, i64_w, i32_w]
      rfl
     refine one_ (i := 7) (N := some 3) #[true, true, true, true, true, true, true, true, false] rfl rfl (one_of HT_.out (by kernel_rfl)) (by decide) (fun K hK => ?_)
     refine box_step ?hg (N := 3) ?hd (cs := #[.slice none 0 0, .slice none 0 0, .slice none 0 0, .int .u8 0, .int .u8 0, .int .u8 0]) (t := 61) ?hr ?_; (case hd => rfl); (case hg => rfl); (case hr => first | (go_simp; done) | (go_simp; rfl))
     intro gb250 hg w10 hbox hb
     have n0_ := asd (Kd.R_below (by (with_reducible repeat (first | apply Kd.R_alloc | apply Kd.R_drewN | apply Kd.R_drew)); exact HO249.out) hb)
     have n1_ := asd (blk_below (g := gb242) (o := .cells #[.slice A0_0 l0_0.length c0_0, .slice A0_1 l0_1.length c0_1, .slice A0_2 l0_2.length c0_2, .int .u8 a0_3, .int .u8 a0_4, .int .u8 a0_5] 49 (0, 0)) (by (with_reducible repeat first | apply bn | apply bd | apply ba); exact BK242.out) hb)
     have n2_ := asd (blk_below (g := gb243) (o := .cells #[.slice none 0 0, .slice none 0 0, .slice none 0 0, .int .u8 0, .int .u8 0, .int .u8 0] 61 (0, 0)) (by (with_reducible repeat first | apply bn | apply bd | apply ba); exact BK243.out) hb)
     have n3_ := asd (below_step (by repeat (first | (with_reducible first | exact HB.out | apply wa | apply wn | apply wd | refine ws ?_ GE242.out | refine ws ?_ GE243.out) | exact HB.out)) hb)
     have n4_ := asd (hbox)
     have n5_ := asd ((by rw [hg]; exact (below_size (by repeat (first | (with_reducible first | exact HB.out | apply wa | apply wn | apply wd | refine ws ?_ GE242.out | refine ws ?_ GE243.out) | exact HB.out))) : w.heap.size ≤ gb250))
     have n6_ := asd ((by rw [hg]; exact (below_size (by repeat (first | (with_reducible first | exact HB.out | apply wa | apply wn | apply wd | refine ws ?_ GE242.out | refine ws ?_ GE243.out) | exact HB.out))) : w.heap.size ≤ gb250))
     have n7_ := asd ((by rw [hg]; exact Nat.ne_of_lt (blk_lt (g := gb242) (o := .cells #[.slice A0_0 l0_0.length c0_0, .slice A0_1 l0_1.length c0_1, .slice A0_2 l0_2.length c0_2, .int .u8 a0_3, .int .u8 a0_4, .int .u8 a0_5] 49 (0, 0)) (by (with_reducible repeat first | apply bn | apply bd | apply ba); exact BK242.out)) : gb242 ≠ gb250))
     have n8_ := asd ((by rw [hg]; exact Nat.ne_of_gt (blk_lt (g := gb242) (o := .cells #[.slice A0_0 l0_0.length c0_0, .slice A0_1 l0_1.length c0_1, .slice A0_2 l0_2.length c0_2, .int .u8 a0_3, .int .u8 a0_4, .int .u8 a0_5] 49 (0, 0)) (by (with_reducible repeat first | apply bn | apply bd | apply ba); exact BK242.out)) : gb250 ≠ gb242))
     have n9_ := asd ((by rw [hg]; exact Nat.ne_of_lt (blk_lt (g := gb243) (o := .cells #[.slice none 0 0, .slice none 0 0, .slice none 0 0, .int .u8 0, .int .u8 0, .int .u8 0] 61 (0, 0)) (by (with_reducible repeat first | apply bn | apply bd | apply ba); exact BK243.out)) : gb243 ≠ gb250))
     have n10_ := asd ((by rw [hg]; exact Nat.ne_of_gt (blk_lt (g := gb243) (o := .cells #[.slice none 0 0, .slice none 0 0, .slice none 0 0, .int .u8 0, .int .u8 0, .int .u8 0] 61 (0, 0)) (by (with_reducible repeat first | apply bn | apply bd | apply ba); exact BK243.out)) : gb250 ≠ gb243))
     clear HO249
     clear BK242
     clear BK243
     clear HB
     have HO249 := n0_
     have BK242 := n1_
     have BK243 := n2_
     have HB := n3_
     have BK250 := n4_
     have GW250 := n5_
     have GE250 := n6_
     have NB242_250 := n7_
     have NB250_242 := n8_
     have NB243_250 := n9_
     have NB250_243 := n10_
     clear n0_ n1_ n2_ n3_ n4_ n5_ n6_ n7_ n8_ n9_ n10_
     clear hb hbox hg
     refine hK.out _ _ ⟨(blk_cell BK242.out 0).trans rfl, (blk_cell BK242.out 1).trans rfl, (blk_cell BK242.out 2).trans rfl, (blk_cell BK242.out 3).trans rfl, (blk_cell BK242.out 4).trans rfl, (blk_cell BK242.out 5).trans rfl⟩ (fun hHeld => ?_)
     clear hK K
     refine norm_ (a' := ?_) ?_ ?_
     rotate_left
     ·show Act.put _ (some 3) _ = _
      simp only [Act.put, sB, i64_w, i32_w]
      rfl
     exact norm_ (by simp only [putAll, Act.put, sB]) (hCont (v245, .slice Ao9 y247.length co9, gb250) _ ⟨hHeld, (by (with_reducible repeat (first | apply Kd.R_alloc | apply Kd.R_drewN | apply Kd.R_drew)); exact HO249.out), (by (with_reducible repeat first | apply bn | apply bd | apply ba); exact BK242.out), (by (with_reducible repeat first | apply bn | apply bd | apply ba); exact BK243.out), (by (with_reducible repeat first | apply bn | apply bd | apply ba); exact BK250.out), GW250.out, GE250.out, NB242_250.out, NB250_242.out, NB243_250.out, NB250_243.out, (by repeat (first | (with_reducible first | exact HB.out | apply wa | apply wn | apply wd | refine ws ?_ GE242.out | refine ws ?_ GE243.out | refine ws ?_ GE250.out) | exact HB.out))⟩)
    ·skip
     refine box_step ?hg (N := 3) ?hd (cs := #[.slice none 0 0, .slice none 0 0, .slice none 0 0, .int .u8 0, .int .u8 0, .int .u8 0]) (t := 61) ?hr ?_; (case hd => rfl); (case hg => rfl); (case hr => first | (go_simp; done) | (go_simp; rfl))
     intro gb250 hg w8 hbox hb
     have n0_ := asd (Kd.R_below (by (with_reducible repeat (first | apply Kd.R_alloc | apply Kd.R_drewN | apply Kd.R_drew)); exact HO246.out) hb)
     have n1_ := asd (blk_below (g := gb242) (o := .cells #[.slice A0_0 l0_0.length c0_0, .slice A0_1 l0_1.length c0_1, .slice A0_2 l0_2.length c0_2, .int .u8 a0_3, .int .u8 a0_4, .int .u8 a0_5] 49 (0, 0)) (by (with_reducible repeat first | apply bn | apply bd | apply ba); exact BK242.out) hb)
     have n2_ := asd (blk_below (g := gb243) (o := .cells #[.slice none 0 0, .slice none 0 0, .slice none 0 0, .int .u8 0, .int .u8 0, .int .u8 0] 61 (0, 0)) (by (with_reducible repeat first | apply bn | apply bd | apply ba); exact BK243.out) hb)
     have n3_ := asd (below_step (by repeat (first | (with_reducible first | exact HB.out | apply wa | apply wn | apply wd | refine ws ?_ GE242.out | refine ws ?_ GE243.out) | exact HB.out)) hb)
     have n4_ := asd (hbox)
     have n5_ := asd ((by rw [hg]; exact (below_size (by repeat (first | (with_reducible first | exact HB.out | apply wa | apply wn | apply wd | refine ws ?_ GE242.out | refine ws ?_ GE243.out) | exact HB.out))) : w.heap.size ≤ gb250))
     have n6_ := asd ((by rw [hg]; exact (below_size (by repeat (first | (with_reducible first | exact HB.out | apply wa | apply wn | apply wd | refine ws ?_ GE242.out | refine ws ?_ GE243.out) | exact HB.out))) : w.heap.size ≤ gb250))
     have n7_ := asd ((by rw [hg]; exact Nat.ne_of_lt (blk_lt (g := gb242) (o := .cells #[.slice A0_0 l0_0.length c0_0, .slice A0_1 l0_1.length c0_1, .slice A0_2 l0_2.length c0_2, .int .u8 a0_3, .int .u8 a0_4, .int .u8 a0_5] 49 (0, 0)) (by (with_reducible repeat first | apply bn | apply bd | apply ba); exact BK242.out)) : gb242 ≠ gb250))
     have n8_ := asd ((by rw [hg]; exact Nat.ne_of_gt (blk_lt (g := gb242) (o := .cells #[.slice A0_0 l0_0.length c0_0, .slice A0_1 l0_1.length c0_1, .slice A0_2 l0_2.length c0_2, .int .u8 a0_3, .int .u8 a0_4, .int .u8 a0_5] 49 (0, 0)) (by (with_reducible repeat first | apply bn | apply bd | apply ba); exact BK242.out)) : gb250 ≠ gb242))
     have n9_ := asd ((by rw [hg]; exact Nat.ne_of_lt (blk_lt (g := gb243) (o := .cells #[.slice none 0 0, .slice none 0 0, .slice none 0 0, .int .u8 0, .int .u8 0, .int .u8 0] 61 (0, 0)) (by (with_reducible repeat first | apply bn | apply bd | apply ba); exact BK243.out)) : gb243 ≠ gb250))
     have n10_ := asd ((by rw [hg]; exact Nat.ne_of_gt (blk_lt (g := gb243) (o := .cells #[.slice none 0 0, .slice none 0 0, .slice none 0 0, .int .u8 0, .int .u8 0, .int .u8 0] 61 (0, 0)) (by (with_reducible repeat first | apply bn | apply bd | apply ba); exact BK243.out)) : gb250 ≠ gb243))
     clear HO246
     clear BK242
     clear BK243
     clear HB
     have HO246 := n0_
     have BK242 := n1_
     have BK243 := n2_
     have HB := n3_
     have BK250 := n4_
     have GW250 := n5_
     have GE250 := n6_
     have NB242_250 := n7_
     have NB250_242 := n8_
     have NB243_250 := n9_
     have NB250_243 := n10_
     clear n0_ n1_ n2_ n3_ n4_ n5_ n6_ n7_ n8_ n9_ n10_
     clear hb hbox hg
     refine hK.out _ _ ⟨(blk_cell BK242.out 0).trans rfl, (blk_cell BK242.out 1).trans rfl, (blk_cell BK242.out 2).trans rfl, (blk_cell BK242.out 3).trans rfl, (blk_cell BK242.out 4).trans rfl, (blk_cell BK242.out 5).trans rfl⟩ (fun hHeld => ?_)
     clear hK K
     refine norm_ (a' := ?_) ?_ ?_
     rotate_left
     ·show Act.put _ (some 3) _ = _
      simp only [Act.put, sB, i64_w, i32_w]
      rfl
     refine one_ (i := 3) (N := some 9) #[true, true, true, true, true, true, false, true, false] rfl rfl (one_of HT_.out (by kernel_rfl)) (by decide) (fun K hK => ?_)
     refine Kd.R_append_rows_step (Kd.int .i64) (w0 := w) w.heap.size (by rfl) (.tmp 6) (.tmp 8) 27 3 (.int .i64 0) 8 rfl Try.underlying27 info3 rfl (by decide) (by omega) v245 y244 l0_2 _ _ _ (fun _ => True) (fun _ => False) rfl rfl ?aO ?aR (fun _ _ h => h) (fun _ h => h.elim) ?aF ?aB ?aS ?aL ?_
     (case aR => repeat (first | exact (Kd.C_below HR0_2.out HB.out) | (with_reducible refine Kd.C_alloc ?_ _) | (with_reducible refine Kd.C_drewN ?_ _) | (with_reducible refine Kd.C_drew ?_)))
     (case aB => exact (by repeat (first | (with_reducible first | exact HB.out | apply wa | apply wn | apply wd | refine ws ?_ GE242.out | refine ws ?_ GE243.out | refine ws ?_ GE250.out) | exact HB.out)))
     (case aF => exact (fun _ _ => trivial))
     (case aO => exact (by (with_reducible repeat (first | apply Kd.R_alloc | apply Kd.R_drewN | apply Kd.R_drew)); exact HO246.out))
     (case aS => exact (below_size (by repeat (first | (with_reducible first | exact HB.out | apply wa | apply wn | apply wd | refine ws ?_ GE242.out | refine ws ?_ GE243.out | refine ws ?_ GE250.out) | exact HB.out))))
     (case aL => have := LMc2.out; omega)
     intro v248 w9 ho hb hg hat
     rw [← Ny247.out] at ho
     have n0_ := asd (blk_grown (g := gb242) (o := .cells #[.slice A0_0 l0_0.length c0_0, .slice A0_1 l0_1.length c0_1, .slice A0_2 l0_2.length c0_2, .int .u8 a0_3, .int .u8 a0_4, .int .u8 a0_5] 49 (0, 0)) (by (with_reducible repeat first | apply bn | apply bd | apply ba); exact BK242.out) hg (Kd.R_ne HO246.out BK242.out (by decide)))
     have n1_ := asd (blk_grown (g := gb243) (o := .cells #[.slice none 0 0, .slice none 0 0, .slice none 0 0, .int .u8 0, .int .u8 0, .int .u8 0] 61 (0, 0)) (by (with_reducible repeat first | apply bn | apply bd | apply ba); exact BK243.out) hg (Kd.R_ne HO246.out BK243.out (by decide)))
     have n2_ := asd (blk_grown (g := gb250) (o := .cells #[.slice none 0 0, .slice none 0 0, .slice none 0 0, .int .u8 0, .int .u8 0, .int .u8 0] 61 (0, 0)) (by (with_reducible repeat first | apply bn | apply bd | apply ba); exact BK250.out) hg (Kd.R_ne HO246.out BK250.out (by decide)))
     have n3_ := asd (hb)
     have n4_ := asd (ho)
     clear BK242
     clear BK243
     clear BK250
     clear HB
     clear HO246
     have BK242 := n0_
     have BK243 := n1_
     have BK250 := n2_
     have HB := n3_
     have HO249 := n4_
     clear n0_ n1_ n2_ n3_ n4_
     clear ho hb hg hat
     obtain ⟨Ao10, co10, eo10⟩ := Kd.R_slice HO249.out
     (first | subst eo10 | (injection eo10 with f1_ f2_ f3_; have f4_ := f1_.symm; have f5_ := f3_.symm; clear f1_ f2_ f3_; subst f4_; subst f5_))
     refine hK.out _ _ ⟨(blk_cell BK242.out 0).trans rfl, (blk_cell BK242.out 1).trans rfl, (blk_cell BK242.out 2).trans rfl, (blk_cell BK242.out 3).trans rfl, (blk_cell BK242.out 4).trans rfl, (blk_cell BK242.out 5).trans rfl⟩ (fun hHeld => ?_)
     clear hK K
     refine norm_ (a' := ?_) ?_ ?_
     rotate_left
     ·show Act.put _ (some 9) _ = _
      simp only [Act.put, sB, i64_w, i32_w]
      rfl
     refine pure_ (i := 6) (N := some 12) (v := ?_) (a' := ?_) #[true, true, true, true, true, true, true, true, false] rfl rfl (any_of HT_.out (by kernel_rfl)) (fun _ _ _ h => h) (Or.inl ⟨by rfl, ?_⟩) ?_ ?_
     rotate_left
     ·intro w'
      go_simp
      with_reducible rfl
     rotate_left
     ·simp only [Act.put, sB, i64_w, i32_w]
      rfl
     exact norm_ (by simp only [putAll, Act.put, sB]) (hCont (v245, .slice Ao10 y247.length co10, gb250) _ ⟨hHeld, (by (with_reducible repeat (first | apply Kd.R_alloc | apply Kd.R_drewN | apply Kd.R_drew)); exact HO249.out), (by (with_reducible repeat first | apply bn | apply bd | apply ba); exact BK242.out), (by (with_reducible repeat first | apply bn | apply bd | apply ba); exact BK243.out), (by (with_reducible repeat first | apply bn | apply bd | apply ba); exact BK250.out), GW250.out, GE250.out, NB242_250.out, NB250_242.out, NB243_250.out, NB250_243.out, (by repeat (first | (with_reducible first | exact HB.out | apply wa | apply wn | apply wd | refine ws ?_ GE242.out | refine ws ?_ GE243.out | refine ws ?_ GE250.out) | exact HB.out))⟩)
   ·skip
    refine box_step ?hg (N := 3) ?hd (cs := #[.slice none 0 0, .slice none 0 0, .slice none 0 0, .int .u8 0, .int .u8 0, .int .u8 0]) (t := 61) ?hr ?_; (case hd => rfl); (case hg => rfl); (case hr => first | (go_simp; done) | (go_simp; rfl))
    intro gb250 hg w6 hbox hb
    have n0_ := asd (blk_below (g := gb242) (o := .cells #[.slice A0_0 l0_0.length c0_0, .slice A0_1 l0_1.length c0_1, .slice A0_2 l0_2.length c0_2, .int .u8 a0_3, .int .u8 a0_4, .int .u8 a0_5] 49 (0, 0)) (by (with_reducible repeat first | apply bn | apply bd | apply ba); exact BK242.out) hb)
    have n1_ := asd (blk_below (g := gb243) (o := .cells #[.slice none 0 0, .slice none 0 0, .slice none 0 0, .int .u8 0, .int .u8 0, .int .u8 0] 61 (0, 0)) (by (with_reducible repeat first | apply bn | apply bd | apply ba); exact BK243.out) hb)
    have n2_ := asd (below_step (by repeat (first | (with_reducible first | exact HB.out | apply wa | apply wn | apply wd | refine ws ?_ GE242.out | refine ws ?_ GE243.out) | exact HB.out)) hb)
    have n3_ := asd (hbox)
    have n4_ := asd ((by rw [hg]; exact (below_size (by repeat (first | (with_reducible first | exact HB.out | apply wa | apply wn | apply wd | refine ws ?_ GE242.out | refine ws ?_ GE243.out) | exact HB.out))) : w.heap.size ≤ gb250))
    have n5_ := asd ((by rw [hg]; exact (below_size (by repeat (first | (with_reducible first | exact HB.out | apply wa | apply wn | apply wd | refine ws ?_ GE242.out | refine ws ?_ GE243.out) | exact HB.out))) : w.heap.size ≤ gb250))
    have n6_ := asd ((by rw [hg]; exact Nat.ne_of_lt (blk_lt (g := gb242) (o := .cells #[.slice A0_0 l0_0.length c0_0, .slice A0_1 l0_1.length c0_1, .slice A0_2 l0_2.length c0_2, .int .u8 a0_3, .int .u8 a0_4, .int .u8 a0_5] 49 (0, 0)) (by (with_reducible repeat first | apply bn | apply bd | apply ba); exact BK242.out)) : gb242 ≠ gb250))
    have n7_ := asd ((by rw [hg]; exact Nat.ne_of_gt (blk_lt (g := gb242) (o := .cells #[.slice A0_0 l0_0.length c0_0, .slice A0_1 l0_1.length c0_1, .slice A0_2 l0_2.length c0_2, .int .u8 a0_3, .int .u8 a0_4, .int .u8 a0_5] 49 (0, 0)) (by (with_reducible repeat first | apply bn | apply bd | apply ba); exact BK242.out)) : gb250 ≠ gb242))
    have n8_ := asd ((by rw [hg]; exact Nat.ne_of_lt (blk_lt (g := gb243) (o := .cells #[.slice none 0 0, .slice none 0 0, .slice none 0 0, .int .u8 0, .int .u8 0, .int .u8 0] 61 (0, 0)) (by (with_reducible repeat first | apply bn | apply bd | apply ba); exact BK243.out)) : gb243 ≠ gb250))
    have n9_ := asd ((by rw [hg]; exact Nat.ne_of_gt (blk_lt (g := gb243) (o := .cells #[.slice none 0 0, .slice none 0 0, .slice none 0 0, .int .u8 0, .int .u8 0, .int .u8 0] 61 (0, 0)) (by (with_reducible repeat first | apply bn | apply bd | apply ba); exact BK243.out)) : gb250 ≠ gb243))
    clear BK242
    clear BK243
    clear HB
    have BK242 := n0_
    have BK243 := n1_
    have HB := n2_
    have BK250 := n3_
    have GW250 := n4_
    have GE250 := n5_
    have NB242_250 := n6_
    have NB250_242 := n7_
    have NB243_250 := n8_
    have NB250_243 := n9_
    clear n0_ n1_ n2_ n3_ n4_ n5_ n6_ n7_ n8_ n9_
    clear hb hbox hg
    refine hK.out _ _ ⟨(blk_cell BK242.out 0).trans rfl, (blk_cell BK242.out 1).trans rfl, (blk_cell BK242.out 2).trans rfl, (blk_cell BK242.out 3).trans rfl, (blk_cell BK242.out 4).trans rfl, (blk_cell BK242.out 5).trans rfl⟩ (fun hHeld => ?_)
    clear hK K
    refine norm_ (a' := ?_) ?_ ?_
    rotate_left
    ·show Act.put _ (some 3) _ = _
     simp only [Act.put, sB, i64_w, i32_w]
     rfl
    refine one_ (i := 0) (N := some 6) #[true, true, true, false, true, true, false, true, false] rfl rfl (one_of HT_.out (by kernel_rfl)) (by decide) (fun K hK => ?_)
    refine Kd.R_lit_step (Kd.int .i64) _ 3 ?hg (N := 6) ?hd (xs := ([] : List Int)) (inner := []) (ok := fun _ => True) (okp := fun _ => True) ?hr ?hp (fun _ hk => hk) trivial (Below.refl _ _) (Nat.le_refl _) (by simp) ?_; (case hd => rfl); (case hg => rfl); (case hr => first | (go_simp; done) | (go_simp; rfl)); (case hp => exact (Reps.none _ _))
    intro v245 w7 ho8 hb hg_ hnew_
    clear hg_ hnew_
    (first | rw [← Ny244.out] at ho8 | (simp only [Int.reduceToNat] at ho8; rw [← Ny244.out] at ho8))
    have n0_ := asd (Kd.R_lower ho8 (below_size (by repeat (first | (with_reducible first | exact HB.out | apply wa | apply wn | apply wd | refine ws ?_ GE242.out | refine ws ?_ GE243.out | refine ws ?_ GE250.out) | exact HB.out))))
    have n1_ := asd (blk_below (g := gb242) (o := .cells #[.slice A0_0 l0_0.length c0_0, .slice A0_1 l0_1.length c0_1, .slice A0_2 l0_2.length c0_2, .int .u8 a0_3, .int .u8 a0_4, .int .u8 a0_5] 49 (0, 0)) (by (with_reducible repeat first | apply bn | apply bd | apply ba); exact BK242.out) hb)
    have n2_ := asd (blk_below (g := gb243) (o := .cells #[.slice none 0 0, .slice none 0 0, .slice none 0 0, .int .u8 0, .int .u8 0, .int .u8 0] 61 (0, 0)) (by (with_reducible repeat first | apply bn | apply bd | apply ba); exact BK243.out) hb)
    have n3_ := asd (blk_below (g := gb250) (o := .cells #[.slice none 0 0, .slice none 0 0, .slice none 0 0, .int .u8 0, .int .u8 0, .int .u8 0] 61 (0, 0)) (by (with_reducible repeat first | apply bn | apply bd | apply ba); exact BK250.out) hb)
    have n4_ := asd (below_step (by repeat (first | (with_reducible first | exact HB.out | apply wa | apply wn | apply wd | refine ws ?_ GE242.out | refine ws ?_ GE243.out | refine ws ?_ GE250.out) | exact HB.out)) hb)
    clear BK242
    clear BK243
    clear BK250
    clear HB
    have HO246 := n0_
    have BK242 := n1_
    have BK243 := n2_
    have BK250 := n3_
    have HB := n4_
    clear n0_ n1_ n2_ n3_ n4_
    clear hb ho8
    refine hK.out _ _ ⟨(blk_cell BK242.out 0).trans rfl, (blk_cell BK242.out 1).trans rfl, (blk_cell BK242.out 2).trans rfl, (blk_cell BK242.out 3).trans rfl, (blk_cell BK242.out 4).trans rfl, (blk_cell BK242.out 5).trans rfl⟩ (fun hHeld => ?_)
    clear hK K
    refine norm_ (a' := ?_) ?_ ?_
    rotate_left
    ·show Act.put _ (some 6) _ = _
     simp only [Act.put, sB, i64_w, i32_w]
     rfl
    refine one_ (i := 3) (N := some 9) #[true, true, true, true, true, true, false, true, false] rfl rfl (one_of HT_.out (by kernel_rfl)) (by decide) (fun K hK => ?_)
    refine Kd.R_append_rows_step (Kd.int .i64) (w0 := w) w.heap.size (by rfl) (.tmp 6) (.tmp 8) 27 3 (.int .i64 0) 8 rfl Try.underlying27 info3 rfl (by decide) (by omega) v245 y244 l0_2 _ _ _ (fun _ => True) (fun _ => False) rfl rfl ?aO ?aR (fun _ _ h => h) (fun _ h => h.elim) ?aF ?aB ?aS ?aL ?_
    (case aR => repeat (first | exact (Kd.C_below HR0_2.out HB.out) | (with_reducible refine Kd.C_alloc ?_ _) | (with_reducible refine Kd.C_drewN ?_ _) | (with_reducible refine Kd.C_drew ?_)))
    (case aB => exact (by repeat (first | (with_reducible first | exact HB.out | apply wa | apply wn | apply wd | refine ws ?_ GE242.out | refine ws ?_ GE243.out | refine ws ?_ GE250.out) | exact HB.out)))
    (case aF => exact (fun _ _ => trivial))
    (case aO => exact (by (with_reducible repeat (first | apply Kd.R_alloc | apply Kd.R_drewN | apply Kd.R_drew)); exact HO246.out))
    (case aS => exact (below_size (by repeat (first | (with_reducible first | exact HB.out | apply wa | apply wn | apply wd | refine ws ?_ GE242.out | refine ws ?_ GE243.out | refine ws ?_ GE250.out) | exact HB.out))))
    (case aL => have := LMc2.out; omega)
    intro v248 w9 ho hb hg hat
    rw [← Ny247.out] at ho
    have n0_ := asd (blk_grown (g := gb242) (o := .cells #[.slice A0_0 l0_0.length c0_0, .slice A0_1 l0_1.length c0_1, .slice A0_2 l0_2.length c0_2, .int .u8 a0_3, .int .u8 a0_4, .int .u8 a0_5] 49 (0, 0)) (by (with_reducible repeat first | apply bn | apply bd | apply ba); exact BK242.out) hg (Kd.R_ne HO246.out BK242.out (by decide)))
    have n1_ := asd (blk_grown (g := gb243) (o := .cells #[.slice none 0 0, .slice none 0 0, .slice none 0 0, .int .u8 0, .int .u8 0, .int .u8 0] 61 (0, 0)) (by (with_reducible repeat first | apply bn | apply bd | apply ba); exact BK243.out) hg (Kd.R_ne HO246.out BK243.out (by decide)))
    have n2_ := asd (blk_grown (g := gb250) (o := .cells #[.slice none 0 0, .slice none 0 0, .slice none 0 0, .int .u8 0, .int .u8 0, .int .u8 0] 61 (0, 0)) (by (with_reducible repeat first | apply bn | apply bd | apply ba); exact BK250.out) hg (Kd.R_ne HO246.out BK250.out (by decide)))
    have n3_ := asd (hb)
    have n4_ := asd (ho)
    clear BK242
    clear BK243
    clear BK250
    clear HB
    clear HO246
    have BK242 := n0_
    have BK243 := n1_
    have BK250 := n2_
    have HB := n3_
    have HO249 := n4_
    clear n0_ n1_ n2_ n3_ n4_
    clear ho hb hg hat
    obtain ⟨Ao10, co10, eo10⟩ := Kd.R_slice HO249.out
    (first | subst eo10 | (injection eo10 with f1_ f2_ f3_; have f4_ := f1_.symm; have f5_ := f3_.symm; clear f1_ f2_ f3_; subst f4_; subst f5_))
    refine hK.out _ _ ⟨(blk_cell BK242.out 0).trans rfl, (blk_cell BK242.out 1).trans rfl, (blk_cell BK242.out 2).trans rfl, (blk_cell BK242.out 3).trans rfl, (blk_cell BK242.out 4).trans rfl, (blk_cell BK242.out 5).trans rfl⟩ (fun hHeld => ?_)
    clear hK K
    refine norm_ (a' := ?_) ?_ ?_
    rotate_left
    ·show Act.put _ (some 9) _ = _
     simp only [Act.put, sB, i64_w, i32_w]
     rfl
    refine pure_ (i := 6) (N := some 12) (v := ?_) (a' := ?_) #[true, true, true, true, true, true, true, true, false] rfl rfl (any_of HT_.out (by kernel_rfl)) (fun _ _ _ h => h) (Or.inl ⟨by rfl, ?_⟩) ?_ ?_
    rotate_left
    ·intro w'
     go_simp
     with_reducible rfl
    rotate_left
    ·simp only [Act.put, sB, i64_w, i32_w]
     rfl
    exact norm_ (by simp only [putAll, Act.put, sB]) (hCont (v245, .slice Ao10 y247.length co10, gb250) _ ⟨hHeld, (by (with_reducible repeat (first | apply Kd.R_alloc | apply Kd.R_drewN | apply Kd.R_drew)); exact HO249.out), (by (with_reducible repeat first | apply bn | apply bd | apply ba); exact BK242.out), (by (with_reducible repeat first | apply bn | apply bd | apply ba); exact BK243.out), (by (with_reducible repeat first | apply bn | apply bd | apply ba); exact BK250.out), GW250.out, GE250.out, NB242_250.out, NB250_242.out, NB243_250.out, NB250_243.out, (by repeat (first | (with_reducible first | exact HB.out | apply wa | apply wn | apply wd | refine ws ?_ GE242.out | refine ws ?_ GE243.out | refine ws ?_ GE250.out) | exact HB.out))⟩)
  rintro ⟨v245, v248, gb250⟩ w11 ⟨hS_, h0_, h1_, h2_, h3_, h4_, h5_, h6_, h7_, h8_, h9_, h10_⟩
  have n0_ : Aside0 (Kd.R (Kd.int .i64) 3 w11 w.heap.size (fun _ => True) v248 y247) := ⟨h0_⟩
  have n1_ : Aside0 (w11.heap[gb242]? = some (.cells #[.slice A0_0 l0_0.length c0_0, .slice A0_1 l0_1.length c0_1, .slice A0_2 l0_2.length c0_2, .int .u8 a0_3, .int .u8 a0_4, .int .u8 a0_5] 49 (0, 0))) := ⟨h1_⟩
  have n2_ : Aside0 (w11.heap[gb243]? = some (.cells #[.slice none 0 0, .slice none 0 0, .slice none 0 0, .int .u8 0, .int .u8 0, .int .u8 0] 61 (0, 0))) := ⟨h2_⟩
  have n3_ : Aside0 (w11.heap[gb250]? = some (.cells #[.slice none 0 0, .slice none 0 0, .slice none 0 0, .int .u8 0, .int .u8 0, .int .u8 0] 61 (0, 0))) := ⟨h3_⟩
  have n4_ : Aside0 (w.heap.size ≤ gb250) := ⟨h4_⟩
  have n5_ : Aside0 (w.heap.size ≤ gb250) := ⟨h5_⟩
  have n6_ : Aside0 (gb242 ≠ gb250) := ⟨h6_⟩
  have n7_ : Aside0 (gb250 ≠ gb242) := ⟨h7_⟩
  have n8_ : Aside0 (gb243 ≠ gb250) := ⟨h8_⟩
  have n9_ : Aside0 (gb250 ≠ gb243) := ⟨h9_⟩
  have n10_ : Aside0 (Below w.heap.size w w11) := ⟨h10_⟩
  clear BK242
  clear BK243
  clear HB
  clear h0_ h1_ h2_ h3_ h4_ h5_ h6_ h7_ h8_ h9_ h10_
  have HO249 := n0_
  have BK242 := n1_
  have BK243 := n2_
  have BK250 := n3_
  have GW250 := n4_
  have GE250 := n5_
  have NB242_250 := n6_
  have NB250_242 := n7_
  have NB243_250 := n8_
  have NB250_243 := n9_
  have HB := n10_
  clear n0_ n1_ n2_ n3_ n4_ n5_ n6_ n7_ n8_ n9_ n10_
  have hHeld : w11.cell? ⟨gb242, 0, none⟩ = some (.slice A0_0 l0_0.length c0_0) ∧ w11.cell? ⟨gb242, 1, none⟩ = some (.slice A0_1 l0_1.length c0_1) ∧ w11.cell? ⟨gb242, 2, none⟩ = some (.slice A0_2 l0_2.length c0_2) ∧ w11.cell? ⟨gb242, 3, none⟩ = some (.int .u8 a0_3) ∧ w11.cell? ⟨gb242, 4, none⟩ = some (.int .u8 a0_4) ∧ w11.cell? ⟨gb242, 5, none⟩ = some (.int .u8 a0_5) := hS_
  obtain ⟨Ao12, co12, eo12⟩ := Kd.R_slice HO249.out
  (first | subst eo12 | (injection eo12 with f1_ f2_ f3_; have f4_ := f1_.symm; have f5_ := f3_.symm; clear f1_ f2_ f3_; subst f4_; subst f5_))
  refine norm_ (a' := ?_) ?_ ?_
  rotate_left
  ·simp only [putAll, Act.put, sB]
   rfl
  refine one_ (i := 8) (N := none) #[true, true, true, true, true, true, true, true, true] rfl rfl (one_of HT_.out (by kernel_rfl)) (by decide) (fun K hK => ?_)
  have hs13 : w11.cell? ⟨gb250, 0, none⟩ = some (.slice none 0 0) := (blk_cell BK250.out 0).trans rfl
  have hfs13 := blk_frozen BK250.out 0
  have hns13_0 := NB242_250.out
  have hns13_1 := NB243_250.out
  have hms13_0 := NB250_242.out
  have hms13_1 := NB250_243.out
  have hs14 : w11.cell? ⟨gb250, 1, none⟩ = some (.slice none 0 0) := (blk_cell BK250.out 1).trans rfl
  have hfs14 := blk_frozen BK250.out 1
  have hns14_0 := NB242_250.out
  have hns14_1 := NB243_250.out
  have hms14_0 := NB250_242.out
  have hms14_1 := NB250_243.out
  have hs15 : w11.cell? ⟨gb250, 2, none⟩ = some (.slice none 0 0) := (blk_cell BK250.out 2).trans rfl
  have hfs15 := blk_frozen BK250.out 2
  have hns15_0 := NB242_250.out
  have hns15_1 := NB243_250.out
  have hms15_0 := NB250_242.out
  have hms15_1 := NB250_243.out
  have hs16 : w11.cell? ⟨gb250, 3, none⟩ = some (.int .u8 0) := (blk_cell BK250.out 3).trans rfl
  have hfs16 := blk_frozen BK250.out 3
  have hns16_0 := NB242_250.out
  have hns16_1 := NB243_250.out
  have hms16_0 := NB250_242.out
  have hms16_1 := NB250_243.out
  have hs17 : w11.cell? ⟨gb250, 4, none⟩ = some (.int .u8 0) := (blk_cell BK250.out 4).trans rfl
  have hfs17 := blk_frozen BK250.out 4
  have hns17_0 := NB242_250.out
  have hns17_1 := NB243_250.out
  have hms17_0 := NB250_242.out
  have hms17_1 := NB250_243.out
  have hs18 : w11.cell? ⟨gb250, 5, none⟩ = some (.int .u8 0) := (blk_cell BK250.out 5).trans rfl
  have hfs18 := blk_frozen BK250.out 5
  have hns18_0 := NB242_250.out
  have hns18_1 := NB243_250.out
  have hms18_0 := NB250_242.out
  have hms18_1 := NB250_243.out
  refine skip_ (w1 := ?_) (by rfl) rfl ?_ ?_
  rotate_left
  ·go_simp
   rfl
  refine hK.out _ _ ⟨((cell_far (p := ⟨gb250, _, none⟩) NB242_250.out _).trans (((cell_far (p := ⟨gb250, _, none⟩) NB242_250.out _).trans (((cell_far (p := ⟨gb250, _, none⟩) NB242_250.out _).trans (((cell_far (p := ⟨gb250, _, none⟩) NB242_250.out _).trans (((cell_far (p := ⟨gb250, _, none⟩) NB242_250.out _).trans (((cell_far (p := ⟨gb250, _, none⟩) NB242_250.out _).trans (hHeld.1)))))))))))), ((cell_far (p := ⟨gb250, _, none⟩) NB242_250.out _).trans (((cell_far (p := ⟨gb250, _, none⟩) NB242_250.out _).trans (((cell_far (p := ⟨gb250, _, none⟩) NB242_250.out _).trans (((cell_far (p := ⟨gb250, _, none⟩) NB242_250.out _).trans (((cell_far (p := ⟨gb250, _, none⟩) NB242_250.out _).trans (((cell_far (p := ⟨gb250, _, none⟩) NB242_250.out _).trans (hHeld.2.1)))))))))))), ((cell_far (p := ⟨gb250, _, none⟩) NB242_250.out _).trans (((cell_far (p := ⟨gb250, _, none⟩) NB242_250.out _).trans (((cell_far (p := ⟨gb250, _, none⟩) NB242_250.out _).trans (((cell_far (p := ⟨gb250, _, none⟩) NB242_250.out _).trans (((cell_far (p := ⟨gb250, _, none⟩) NB242_250.out _).trans (((cell_far (p := ⟨gb250, _, none⟩) NB242_250.out _).trans (hHeld.2.2.1)))))))))))), ((cell_far (p := ⟨gb250, _, none⟩) NB242_250.out _).trans (((cell_far (p := ⟨gb250, _, none⟩) NB242_250.out _).trans (((cell_far (p := ⟨gb250, _, none⟩) NB242_250.out _).trans (((cell_far (p := ⟨gb250, _, none⟩) NB242_250.out _).trans (((cell_far (p := ⟨gb250, _, none⟩) NB242_250.out _).trans (((cell_far (p := ⟨gb250, _, none⟩) NB242_250.out _).trans (hHeld.2.2.2.1)))))))))))), ((cell_far (p := ⟨gb250, _, none⟩) NB242_250.out _).trans (((cell_far (p := ⟨gb250, _, none⟩) NB242_250.out _).trans (((cell_far (p := ⟨gb250, _, none⟩) NB242_250.out _).trans (((cell_far (p := ⟨gb250, _, none⟩) NB242_250.out _).trans (((cell_far (p := ⟨gb250, _, none⟩) NB242_250.out _).trans (((cell_far (p := ⟨gb250, _, none⟩) NB242_250.out _).trans (hHeld.2.2.2.2.1)))))))))))), ((cell_far (p := ⟨gb250, _, none⟩) NB242_250.out _).trans (((cell_far (p := ⟨gb250, _, none⟩) NB242_250.out _).trans (((cell_far (p := ⟨gb250, _, none⟩) NB242_250.out _).trans (((cell_far (p := ⟨gb250, _, none⟩) NB242_250.out _).trans (((cell_far (p := ⟨gb250, _, none⟩) NB242_250.out _).trans (((cell_far (p := ⟨gb250, _, none⟩) NB242_250.out _).trans (hHeld.2.2.2.2.2))))))))))))⟩ (fun hHeld => ?_)
  clear hK K
  refine done_ (done_of HT_.out (by kernel_rfl)) ?_
  try go_wp2
  go_loopg [4] k (fun kq v4 w' => ∃ (x4_1 : Int) (x251000_1 : List (S56)) (u251000 : Value), v4 = .int .i64 x4_1 ∧ Aside0 (parcloselaw03_RefPart.l0 kq x4_1 l0_0 l0_1 l0_2 a0_3 a0_4 a0_5 x251000_1 y247 a0_3 a0_4 a0_5 = some (r1, r2, r3, r4, r5, r6)) ∧ Aside0 (kq ≤ k) ∧ Aside0 (Kd.R k56 56 w' w.heap.size (fun _ => True) u251000 x251000_1) ∧ Aside0 (Kd.R (Kd.int .i64) 3 w' w.heap.size (fun _ => True) (.slice Ao12 y247.length co12) y247) ∧ Aside0 (w'.heap[gb242]? = some (.cells #[(.slice A0_0 l0_0.length c0_0), (.slice A0_1 l0_1.length c0_1), (.slice A0_2 l0_2.length c0_2), .int .u8 a0_3, .int .u8 a0_4, .int .u8 a0_5] 49 (0, 0))) ∧ Aside0 (w'.heap[gb243]? = some (.cells #[(.slice none 0 0), (.slice none 0 0), (.slice none 0 0), .int .u8 0, .int .u8 0, .int .u8 0] 61 (0, 0))) ∧ Aside0 (w'.heap[gb250]? = some (.cells #[u251000, (.slice none 0 0), (.slice Ao12 y247.length co12), .int .u8 a0_3, .int .u8 a0_4, .int .u8 a0_5] 61 (0, 0))) ∧ Aside0 (Below w.heap.size w w'))
  case atStart => exact ⟨(0), (([] : List (S56))), (.slice none 0 0), (by first | rfl | (simp; done) | (simp [*]; done)), H', ⟨Nat.le_refl _⟩, ⟨by first | exact Kd.R_nil _ _ _ _ _ | exact Kd.N_nil _ _ _ _ _ | exact Kd.V_nil _ _ _ _ _ | exact Kd.Q_nil _ _ _ _ _ | exact Kd.S_nil _ _ _ _ _⟩, ⟨by (with_reducible repeat (first | apply Kd.R_alloc | apply Kd.R_drewN | apply Kd.R_drew)); exact Kd.R_mono (Kd.R_far (p := ⟨gb250, 5, none⟩) (Kd.R_far (p := ⟨gb250, 4, none⟩) (Kd.R_far (p := ⟨gb250, 3, none⟩) (Kd.R_far (p := ⟨gb250, 2, none⟩) (Kd.R_far (p := ⟨gb250, 1, none⟩) (Kd.R_far (p := ⟨gb250, 0, none⟩) (Kd.R_types HO249.out BK250.out (by decide)) (fun _ hk => hk.2) (.slice none 0 0)) (fun _ hk => hk.2) (.slice none 0 0)) (fun _ hk => hk.2) (.slice Ao12 y247.length co12)) (fun _ hk => hk.2) (.int .u8 a0_3)) (fun _ hk => hk.2) (.int .u8 a0_4)) (fun _ hk => hk.2) (.int .u8 a0_5)) (fun _ hk => trivial)⟩, ⟨by (with_reducible repeat first | apply bn | apply bd | apply ba); refine blk_far ?_ NB242_250.out _; (with_reducible repeat first | apply bn | apply bd | apply ba); refine blk_far ?_ NB242_250.out _; (with_reducible repeat first | apply bn | apply bd | apply ba); refine blk_far ?_ NB242_250.out _; (with_reducible repeat first | apply bn | apply bd | apply ba); refine blk_far ?_ NB242_250.out _; (with_reducible repeat first | apply bn | apply bd | apply ba); refine blk_far ?_ NB242_250.out _; (with_reducible repeat first | apply bn | apply bd | apply ba); refine blk_far ?_ NB242_250.out _; (with_reducible repeat first | apply bn | apply bd | apply ba); exact BK242.out⟩, ⟨by (with_reducible repeat first | apply bn | apply bd | apply ba); refine blk_far ?_ NB243_250.out _; (with_reducible repeat first | apply bn | apply bd | apply ba); refine blk_far ?_ NB243_250.out _; (with_reducible repeat first | apply bn | apply bd | apply ba); refine blk_far ?_ NB243_250.out _; (with_reducible repeat first | apply bn | apply bd | apply ba); refine blk_far ?_ NB243_250.out _; (with_reducible repeat first | apply bn | apply bd | apply ba); refine blk_far ?_ NB243_250.out _; (with_reducible repeat first | apply bn | apply bd | apply ba); refine blk_far ?_ NB243_250.out _; (with_reducible repeat first | apply bn | apply bd | apply ba); exact BK243.out⟩, ⟨by (with_reducible repeat first | apply bn | apply bd | apply ba); refine blk_put (cs := #[.slice none 0 0, .slice none 0 0, .slice Ao12 y247.length co12, .int .u8 a0_3, .int .u8 a0_4, .int .u8 0]) ?_ 5 _ rfl; (with_reducible repeat first | apply bn | apply bd | apply ba); refine blk_put (cs := #[.slice none 0 0, .slice none 0 0, .slice Ao12 y247.length co12, .int .u8 a0_3, .int .u8 0, .int .u8 0]) ?_ 4 _ rfl; (with_reducible repeat first | apply bn | apply bd | apply ba); refine blk_put (cs := #[.slice none 0 0, .slice none 0 0, .slice Ao12 y247.length co12, .int .u8 0, .int .u8 0, .int .u8 0]) ?_ 3 _ rfl; (with_reducible repeat first | apply bn | apply bd | apply ba); refine blk_put (cs := #[.slice none 0 0, .slice none 0 0, .slice none 0 0, .int .u8 0, .int .u8 0, .int .u8 0]) ?_ 2 _ rfl; (with_reducible repeat first | apply bn | apply bd | apply ba); refine blk_put (cs := #[.slice none 0 0, .slice none 0 0, .slice none 0 0, .int .u8 0, .int .u8 0, .int .u8 0]) ?_ 1 _ rfl; (with_reducible repeat first | apply bn | apply bd | apply ba); refine blk_put (cs := #[.slice none 0 0, .slice none 0 0, .slice none 0 0, .int .u8 0, .int .u8 0, .int .u8 0]) ?_ 0 _ rfl; (with_reducible repeat first | apply bn | apply bd | apply ba); exact BK250.out⟩, ⟨by repeat (first | (with_reducible first | exact HB.out | apply wa | apply wn | apply wd | refine ws ?_ GE242.out | refine ws ?_ GE243.out | refine ws ?_ GE250.out) | exact HB.out)⟩⟩
  case round =>
   clear H'
   try clear c2
   try clear p2
   try clear c5
   obtain ⟨x4_1, x251000_1, u251000, rfl, HA, HK1, HO_251000, HO_251002, BK242, BK243, BK250, HB⟩ := hrel
   cases gk with
   | zero => exact absurd HA.out (by simp [parcloselaw03_RefPart.l0])
   | succ k1 =>
    have H := HA.out
    clear HA
    simp only [parcloselaw03_RefPart.l0] at H
    by_cases c19 : x4_1 < (l0_0.length : Int)
    ·rw [if_pos c19] at H
     have c19b0 : decide (x4_1 < (l0_0.length : Int)) = true := decide_eq_true c19
     clear c19
     by_cases c20 : 0 ≤ x4_1
     ·rw [if_pos c20] at H
      have c20b0 : decide (0 ≤ x4_1) = true := decide_eq_true c20
      clear c20
      by_cases c21 : x251000_1.length < 2932031007402
      ·rw [if_pos c21] at H
       have LMc21 := asd c21
       clear c21
       obtain ⟨y252, hy252⟩ : ∃ y_ : List (S56), y_ = (x251000_1 ++ [(⟨(rd_T51 l0_0 x4_1).f0, (rd_T51 l0_0 x4_1).f1, (rd_T51 l0_0 x4_1).f2, (rd_T51 l0_0 x4_1).f3, (rd_T51 l0_0 x4_1).f4, (rd_T51 l0_0 x4_1).f5⟩ : S56)]) := ⟨_, rfl⟩
       replace H : (parcloselaw03_RefPart.l0 k1 (wrap64 (x4_1 + 1)) l0_0 l0_1 l0_2 a0_3 a0_4 a0_5 y252 y247 a0_3 a0_4 a0_5) = some (r1, r2, r3, r4, r5, r6) := by first | (rw [hy252]; with_reducible exact H) | (have H2_ := (Option.bind_some _ _).symm.trans H; rw [hy252]; with_reducible exact H2_) | (have H2_ := (Option.bind_some _ _).symm.trans H; with_reducible exact H2_) | with_reducible exact H | (rw [hy252]; exact H) | exact H
       have Ny252 := asd hy252
       clear hy252
       have H' := asd H
       clear H
       have hnb22 := NB242_243.out
       have hnc22 := NB243_242.out
       have hnb23 := NB242_250.out
       have hnc23 := NB250_242.out
       have hcz24_0 : wr.cell? ⟨gb242, 0, none⟩ = some (.slice A0_0 l0_0.length c0_0) := (blk_cell BK242.out 0).trans rfl
       have hcz24_1 : wr.cell? ⟨gb242, 1, none⟩ = some (.slice A0_1 l0_1.length c0_1) := (blk_cell BK242.out 1).trans rfl
       have hcz24_2 : wr.cell? ⟨gb242, 2, none⟩ = some (.slice A0_2 l0_2.length c0_2) := (blk_cell BK242.out 2).trans rfl
       have hcz24_3 : wr.cell? ⟨gb242, 3, none⟩ = some (.int .u8 a0_3) := (blk_cell BK242.out 3).trans rfl
       have hcz24_4 : wr.cell? ⟨gb242, 4, none⟩ = some (.int .u8 a0_4) := (blk_cell BK242.out 4).trans rfl
       have hcz24_5 : wr.cell? ⟨gb242, 5, none⟩ = some (.int .u8 a0_5) := (blk_cell BK242.out 5).trans rfl
       have hfz24_0 := blk_frozen BK242.out 0
       have hfz24_1 := blk_frozen BK242.out 1
       have hfz24_2 := blk_frozen BK242.out 2
       have hfz24_3 := blk_frozen BK242.out 3
       have hfz24_4 := blk_frozen BK242.out 4
       have hfz24_5 := blk_frozen BK242.out 5
       try go_wp2
       have n0_ := asd (Kd.R_drew HO_251000.out)
       have n1_ := asd (Kd.R_drew HO_251002.out)
       have n2_ := asd (blk_drew BK242.out)
       have n3_ := asd (blk_drew BK243.out)
       have n4_ := asd (blk_drew BK250.out)
       have n5_ := asd (below_drew1 HB.out)
       clear HO_251000
       clear HO_251002
       clear BK242
       clear BK243
       clear BK250
       clear HB
       have HO_251000 := n0_
       have HO_251002 := n1_
       have BK242 := n2_
       have BK243 := n3_
       have BK250 := n4_
       have HB := n5_
       clear n0_ n1_ n2_ n3_ n4_ n5_
       have p251 : 0 ≤ (x4_1 : Int) := of_decide_eq_true (by assumption)
       have q251 : x4_1 < (l0_0.length : Int) := of_decide_eq_true (by assumption)
       obtain ⟨ad251, e251, hx251_0, hx251_1, hx251_2, hx251_3, hx251_4, hx251_5⟩ := at_T51 HR0_0.out x4_1 p251 q251
       have hw251_5 := hx251_5
       have hw251_4 := hx251_4
       have hw251_3 := hx251_3
       have hw251_2 := hx251_2
       have hw251_1 := hx251_1
       have hw251_0 := hx251_0
       cases e251
       replace hx251_0 := (HB.out.cell (World.block_lt_of_cell? w _ hx251_0)).trans hx251_0
       replace hx251_1 := (HB.out.cell (World.block_lt_of_cell? w _ hx251_1)).trans hx251_1
       replace hx251_2 := (HB.out.cell (World.block_lt_of_cell? w _ hx251_2)).trans hx251_2
       replace hx251_3 := (HB.out.cell (World.block_lt_of_cell? w _ hx251_3)).trans hx251_3
       replace hx251_4 := (HB.out.cell (World.block_lt_of_cell? w _ hx251_4)).trans hx251_4
       replace hx251_5 := (HB.out.cell (World.block_lt_of_cell? w _ hx251_5)).trans hx251_5
       replace p251 := eq_true p251
       replace q251 := eq_true q251
       refine start_ (n := 11) (S := fun w' => w'.cell? ⟨gb250, 0, none⟩ = some (u251000) ∧ w'.cell? ⟨gb250, 1, none⟩ = some (.slice none 0 0) ∧ w'.cell? ⟨gb250, 2, none⟩ = some (.slice Ao12 y247.length co12) ∧ w'.cell? ⟨gb250, 3, none⟩ = some (.int .u8 a0_3) ∧ w'.cell? ⟨gb250, 4, none⟩ = some (.int .u8 a0_4) ∧ w'.cell? ⟨gb250, 5, none⟩ = some (.int .u8 a0_5) ∧ w'.cell? ⟨gb242, 0, none⟩ = some (.slice (some ad251) l0_0.length c0_0) ∧ w'.cell? ⟨gb242, 1, none⟩ = some (.slice A0_1 l0_1.length c0_1) ∧ w'.cell? ⟨gb242, 2, none⟩ = some (.slice A0_2 l0_2.length c0_2) ∧ w'.cell? ⟨gb242, 3, none⟩ = some (.int .u8 a0_3) ∧ w'.cell? ⟨gb242, 4, none⟩ = some (.int .u8 a0_4) ∧ w'.cell? ⟨gb242, 5, none⟩ = some (.int .u8 a0_5) ∧ w'.cell? (ad251.add ((x4_1).toNat * 6)) = some (.bool ((rd_T51 l0_0 x4_1).f0)) ∧ w'.cell? ⟨(ad251.add ((x4_1).toNat * 6)).block, (ad251.add ((x4_1).toNat * 6)).off + 1, none⟩ = some (.int .i64 ((rd_T51 l0_0 x4_1).f1)) ∧ w'.cell? ⟨(ad251.add ((x4_1).toNat * 6)).block, (ad251.add ((x4_1).toNat * 6)).off + 2, none⟩ = some (.int .i64 ((rd_T51 l0_0 x4_1).f2)) ∧ w'.cell? ⟨(ad251.add ((x4_1).toNat * 6)).block, (ad251.add ((x4_1).toNat * 6)).off + 3, none⟩ = some (.int .i64 ((rd_T51 l0_0 x4_1).f3)) ∧ w'.cell? ⟨(ad251.add ((x4_1).toNat * 6)).block, (ad251.add ((x4_1).toNat * 6)).off + 4, none⟩ = some (.int .i64 ((rd_T51 l0_0 x4_1).f4)) ∧ w'.cell? ⟨(ad251.add ((x4_1).toNat * 6)).block, (ad251.add ((x4_1).toNat * 6)).off + 5, none⟩ = some (.int .i64 ((rd_T51 l0_0 x4_1).f5))) (ds := [10]) #[false, false, false, false, false, false, false, false, false, false, false] (by kernel_rfl) rfl rfl ⟨(blk_cell BK250.out 0).trans rfl, (blk_cell BK250.out 1).trans rfl, (blk_cell BK250.out 2).trans rfl, (blk_cell BK250.out 3).trans rfl, (blk_cell BK250.out 4).trans rfl, (blk_cell BK250.out 5).trans rfl, (blk_cell BK242.out 0).trans rfl, (blk_cell BK242.out 1).trans rfl, (blk_cell BK242.out 2).trans rfl, (blk_cell BK242.out 3).trans rfl, (blk_cell BK242.out 4).trans rfl, (blk_cell BK242.out 5).trans rfl, ((HB.out.cell (World.block_lt_of_cell? w _ hw251_0)).trans hw251_0), ((HB.out.cell (World.block_lt_of_cell? w _ hw251_1)).trans hw251_1), ((HB.out.cell (World.block_lt_of_cell? w _ hw251_2)).trans hw251_2), ((HB.out.cell (World.block_lt_of_cell? w _ hw251_3)).trans hw251_3), ((HB.out.cell (World.block_lt_of_cell? w _ hw251_4)).trans hw251_4), ((HB.out.cell (World.block_lt_of_cell? w _ hw251_5)).trans hw251_5)⟩ (fun hHeld => ?_); refine with_tabW parcloselaw03_RefPart.tab5 parcloselaw03_RefPart.bits5 (fun HT_ HW_ => ?_)
       generalize wr.drew = w25 at HO_251000 HO_251002 BK242 BK243 BK250 HB hx251_0 hx251_1 hx251_2 hx251_3 hx251_4 hx251_5 hHeld ⊢
       refine pure_ (i := 0) (N := some 20) (v := ?_) (a' := ?_) #[true, false, false, false, false, false, false, false, false, false, false] rfl rfl (any_of HT_.out (by kernel_rfl)) (fun _ _ _ h => h) (Or.inl ⟨by rfl, ?_⟩) ?_ ?_
       rotate_left
       ·intro w'
        go_simp
        with_reducible rfl
       rotate_left
       ·simp only [Act.put, sB, i64_w, i32_w]
        rfl
       refine pure_ (i := 2) (N := some 22) (v := ?_) (a' := ?_) #[true, false, true, false, false, false, false, false, false, false, false] rfl rfl (any_of HT_.out (by kernel_rfl)) (fun _ _ _ h => h) (Or.inl ⟨by rfl, ?_⟩) ?_ ?_
       rotate_left
       ·intro w'
        go_simp
        with_reducible rfl
       rotate_left
       ·simp only [Act.put, sB, i64_w, i32_w]
        rfl
       refine pure_ (i := 4) (N := some 24) (v := ?_) (a' := ?_) #[true, false, true, false, true, false, false, false, false, false, false] rfl rfl (any_of HT_.out (by kernel_rfl)) (fun _ _ _ h => h) (Or.inl ⟨by rfl, ?_⟩) ?_ ?_
       rotate_left
       ·intro w'
        go_simp
        with_reducible rfl
       rotate_left
       ·simp only [Act.put, sB, i64_w, i32_w]
        rfl
       refine take_ (i := 1) (N := some 21) (v := ?_) (a' := ?_) #[true, true, true, false, true, false, false, false, false, false, false] rfl rfl (take_ofW HT_.out HW_.out (by kernel_rfl)) (fun _ _ _ h => h) (Or.inl ⟨by rfl, ?_⟩) hHeld ?_ ?_
       rotate_left
       ·rintro w' ⟨s0, s1, s2, s3, s4, s5, s6, s7, s8, s9, s10, s11, s12, s13, s14, s15, s16, s17⟩
        go_simp
        with_reducible rfl
       rotate_left
       ·simp only [Act.put, sB, i64_w, i32_w]
        rfl
       refine take_ (i := 3) (N := some 23) (v := ?_) (a' := ?_) #[true, true, true, true, true, false, false, false, false, false, false] rfl rfl (take_ofW HT_.out HW_.out (by kernel_rfl)) (fun _ _ _ h => h) (Or.inl ⟨by rfl, ?_⟩) hHeld ?_ ?_
       rotate_left
       ·rintro w' ⟨s0, s1, s2, s3, s4, s5, s6, s7, s8, s9, s10, s11, s12, s13, s14, s15, s16, s17⟩
        go_simp
        with_reducible rfl
       rotate_left
       ·simp only [Act.put, sB, i64_w, i32_w]
        rfl
       refine pure_ (i := 5) (N := some 25) (v := ?_) (a' := ?_) #[true, true, true, true, true, true, false, false, false, false, false] rfl rfl (any_of HT_.out (by kernel_rfl)) (fun _ _ _ h => h) (Or.inl ⟨by rfl, ?_⟩) ?_ ?_
       rotate_left
       ·intro w'
        go_simp
        with_reducible rfl
       rotate_left
       ·simp only [Act.put, sB, i64_w, i32_w]
        rfl
       refine take_ (i := 6) (N := some 26) (v := ?_) (a' := ?_) #[true, true, true, true, true, true, true, false, false, false, false] rfl rfl (take_ofW HT_.out HW_.out (by kernel_rfl)) (fun _ _ _ h => h) (Or.inl ⟨by rfl, ?_⟩) hHeld ?_ ?_
       rotate_left
       ·rintro w' ⟨s0, s1, s2, s3, s4, s5, s6, s7, s8, s9, s10, s11, s12, s13, s14, s15, s16, s17⟩
        go_simp
        with_reducible rfl
       rotate_left
       ·simp only [Act.put, sB, i64_w, i32_w]
        rfl
       refine one_ (i := 7) (N := some 27) #[true, true, true, true, true, true, true, true, false, false, false] rfl rfl (one_of HT_.out (by kernel_rfl)) (by decide) (fun K hK => ?_)
       refine value_ (w1 := ?_) (v := ?_) (by rfl) rfl ?_ ?_
       rotate_left 2
       ·go_simp
        constructor
        ·rfl
        ·rfl
       refine hK.out _ _ ⟨(blk_cell (blk_alloc BK250.out _) 0).trans rfl, (blk_cell (blk_alloc BK250.out _) 1).trans rfl, (blk_cell (blk_alloc BK250.out _) 2).trans rfl, (blk_cell (blk_alloc BK250.out _) 3).trans rfl, (blk_cell (blk_alloc BK250.out _) 4).trans rfl, (blk_cell (blk_alloc BK250.out _) 5).trans rfl, (blk_cell (blk_alloc BK242.out _) 0).trans rfl, (blk_cell (blk_alloc BK242.out _) 1).trans rfl, (blk_cell (blk_alloc BK242.out _) 2).trans rfl, (blk_cell (blk_alloc BK242.out _) 3).trans rfl, (blk_cell (blk_alloc BK242.out _) 4).trans rfl, (blk_cell (blk_alloc BK242.out _) 5).trans rfl, (World.cell?_alloc_lt _ _ _ (World.block_lt_of_cell? _ _ (((HB.out.cell (World.block_lt_of_cell? w _ hw251_0)).trans hw251_0)))).trans (((HB.out.cell (World.block_lt_of_cell? w _ hw251_0)).trans hw251_0)), (World.cell?_alloc_lt _ _ _ (World.block_lt_of_cell? _ _ (((HB.out.cell (World.block_lt_of_cell? w _ hw251_1)).trans hw251_1)))).trans (((HB.out.cell (World.block_lt_of_cell? w _ hw251_1)).trans hw251_1)), (World.cell?_alloc_lt _ _ _ (World.block_lt_of_cell? _ _ (((HB.out.cell (World.block_lt_of_cell? w _ hw251_2)).trans hw251_2)))).trans (((HB.out.cell (World.block_lt_of_cell? w _ hw251_2)).trans hw251_2)), (World.cell?_alloc_lt _ _ _ (World.block_lt_of_cell? _ _ (((HB.out.cell (World.block_lt_of_cell? w _ hw251_3)).trans hw251_3)))).trans (((HB.out.cell (World.block_lt_of_cell? w _ hw251_3)).trans hw251_3)), (World.cell?_alloc_lt _ _ _ (World.block_lt_of_cell? _ _ (((HB.out.cell (World.block_lt_of_cell? w _ hw251_4)).trans hw251_4)))).trans (((HB.out.cell (World.block_lt_of_cell? w _ hw251_4)).trans hw251_4)), (World.cell?_alloc_lt _ _ _ (World.block_lt_of_cell? _ _ (((HB.out.cell (World.block_lt_of_cell? w _ hw251_5)).trans hw251_5)))).trans (((HB.out.cell (World.block_lt_of_cell? w _ hw251_5)).trans hw251_5))⟩ (fun hHeld => ?_)
       clear hK K
       refine norm_ (a' := ?_) ?_ ?_
       rotate_left
       ·show Act.put _ (some 27) _ = _
        simp only [Act.put, sB, i64_w, i32_w]
        rfl
       refine one_ (i := 8) (N := some 28) #[true, true, true, true, true, true, true, true, true, false, false] rfl rfl (one_of HT_.out (by kernel_rfl)) (by decide) (fun K hK => ?_)
       refine Kd.R_append_step k56 (w0 := w) w.heap.size (by rfl) (.tmp 21) (.tmp 27) 58 56 (.agg #[(.bool false), (.int .i64 0), (.int .i64 0), (.int .i64 0), (.int .i64 0), (.int .i64 0)]) 48 rfl Try.underlying58 info56 rfl (by decide) (by omega) u251000 x251000_1 (⟨(rd_T51 l0_0 x4_1).f0, (rd_T51 l0_0 x4_1).f1, (rd_T51 l0_0 x4_1).f2, (rd_T51 l0_0 x4_1).f3, (rd_T51 l0_0 x4_1).f4, (rd_T51 l0_0 x4_1).f5⟩ : S56) [.bool ((rd_T51 l0_0 x4_1).f0), .int .i64 ((rd_T51 l0_0 x4_1).f1), .int .i64 ((rd_T51 l0_0 x4_1).f2), .int .i64 ((rd_T51 l0_0 x4_1).f3), .int .i64 ((rd_T51 l0_0 x4_1).f4), .int .i64 ((rd_T51 l0_0 x4_1).f5)] (fun _ => True) (fun _ => False) rfl rfl ?aP (fun _ hk => hk.elim) ?aF ?aO ?aB ?aS ?aL ?_
       (case aP => exact k56_mkM _ _ _ (⟨(rd_T51 l0_0 x4_1).f0, (rd_T51 l0_0 x4_1).f1, (rd_T51 l0_0 x4_1).f2, (rd_T51 l0_0 x4_1).f3, (rd_T51 l0_0 x4_1).f4, (rd_T51 l0_0 x4_1).f5⟩ : S56))
       (case aB => exact (by repeat (first | (with_reducible first | exact HB.out | apply wa | apply wn | apply wd | refine ws ?_ GE242.out | refine ws ?_ GE243.out | refine ws ?_ GE250.out) | exact HB.out)))
       (case aF => exact (fun _ _ => trivial))
       (case aO => exact (by (with_reducible repeat (first | apply Kd.R_alloc | apply Kd.R_drewN | apply Kd.R_drew)); exact HO_251000.out))
       (case aS => exact (below_size (by repeat (first | (with_reducible first | exact HB.out | apply wa | apply wn | apply wd | refine ws ?_ GE242.out | refine ws ?_ GE243.out | refine ws ?_ GE250.out) | exact HB.out))))
       (case aL => have := LMc21.out; omega)
       intro v253 w26 ho hb hg hat
       rw [← Ny252.out] at ho
       have n0_ := asd (Kd.R_over' (by (with_reducible repeat (first | apply Kd.R_alloc | apply Kd.R_drewN | apply Kd.R_drew)); exact HO_251002.out) (Kd.R_typed (by (with_reducible repeat (first | apply Kd.R_alloc | apply Kd.R_drewN | apply Kd.R_drew)); exact HO_251000.out)) (by decide) hg)
       have n1_ := asd (blk_grown (g := gb242) (o := .cells #[.slice (some ad251) l0_0.length c0_0, .slice A0_1 l0_1.length c0_1, .slice A0_2 l0_2.length c0_2, .int .u8 a0_3, .int .u8 a0_4, .int .u8 a0_5] 49 (0, 0)) (by (with_reducible repeat first | apply bn | apply bd | apply ba); exact BK242.out) hg (Kd.R_ne HO_251000.out BK242.out (by decide)))
       have n2_ := asd (blk_grown (g := gb243) (o := .cells #[.slice none 0 0, .slice none 0 0, .slice none 0 0, .int .u8 0, .int .u8 0, .int .u8 0] 61 (0, 0)) (by (with_reducible repeat first | apply bn | apply bd | apply ba); exact BK243.out) hg (Kd.R_ne HO_251000.out BK243.out (by decide)))
       have n3_ := asd (blk_grown (g := gb250) (o := .cells #[u251000, .slice none 0 0, .slice Ao12 y247.length co12, .int .u8 a0_3, .int .u8 a0_4, .int .u8 a0_5] 61 (0, 0)) (by (with_reducible repeat first | apply bn | apply bd | apply ba); exact BK250.out) hg (Kd.R_ne HO_251000.out BK250.out (by decide)))
       have n4_ := asd (hb)
       have n5_ := asd (ho)
       clear HO_251002
       clear BK242
       clear BK243
       clear BK250
       clear HB
       clear HO_251000
       have HO_251002 := n0_
       have BK242 := n1_
       have BK243 := n2_
       have BK250 := n3_
       have HB := n4_
       have HO254 := n5_
       clear n0_ n1_ n2_ n3_ n4_ n5_
       clear ho hb hg hat
       obtain ⟨Ao27, co27, eo27⟩ := Kd.R_slice HO254.out
       (first | subst eo27 | (injection eo27 with f1_ f2_ f3_; have f4_ := f1_.symm; have f5_ := f3_.symm; clear f1_ f2_ f3_; subst f4_; subst f5_))
       refine hK.out _ _ ⟨(blk_cell BK250.out 0).trans rfl, (blk_cell BK250.out 1).trans rfl, (blk_cell BK250.out 2).trans rfl, (blk_cell BK250.out 3).trans rfl, (blk_cell BK250.out 4).trans rfl, (blk_cell BK250.out 5).trans rfl, (blk_cell BK242.out 0).trans rfl, (blk_cell BK242.out 1).trans rfl, (blk_cell BK242.out 2).trans rfl, (blk_cell BK242.out 3).trans rfl, (blk_cell BK242.out 4).trans rfl, (blk_cell BK242.out 5).trans rfl, ((HB.out.cell (World.block_lt_of_cell? w _ hw251_0)).trans hw251_0), ((HB.out.cell (World.block_lt_of_cell? w _ hw251_1)).trans hw251_1), ((HB.out.cell (World.block_lt_of_cell? w _ hw251_2)).trans hw251_2), ((HB.out.cell (World.block_lt_of_cell? w _ hw251_3)).trans hw251_3), ((HB.out.cell (World.block_lt_of_cell? w _ hw251_4)).trans hw251_4), ((HB.out.cell (World.block_lt_of_cell? w _ hw251_5)).trans hw251_5)⟩ (fun hHeld => ?_)
       clear hK K
       refine norm_ (a' := ?_) ?_ ?_
       rotate_left
       ·show Act.put _ (some 28) _ = _
        simp only [Act.put, sB, i64_w, i32_w]
        rfl
       refine pure_ (i := 9) (N := some 29) (v := ?_) (a' := ?_) #[true, true, true, true, true, true, true, true, true, true, false] rfl rfl (any_of HT_.out (by kernel_rfl)) (fun _ _ _ h => h) (Or.inl ⟨by rfl, ?_⟩) ?_ ?_
       rotate_left
       ·intro w'
        go_simp
        with_reducible rfl
       rotate_left
       ·simp only [Act.put, sB, i64_w, i32_w]
        rfl
       refine last_ (i := 10) (N := none) #[true, true, true, true, true, true, true, true, true, true, true] rfl rfl (one_of HT_.out (by kernel_rfl)) (by decide) (fun K hK => ?_)
       have hs28 : w26.cell? ⟨gb250, 0, none⟩ = some (u251000) := (blk_cell BK250.out 0).trans rfl
       have hfs28 := blk_frozen BK250.out 0
       have hns28_0 := NB242_250.out
       have hns28_1 := NB243_250.out
       have hms28_0 := NB250_242.out
       have hms28_1 := NB250_243.out
       refine skip_ (w1 := ?_) (by rfl) rfl ?_ ?_
       rotate_left
       ·go_simp
        rfl
       refine hK.out _ _ ?_
       clear hK K
       refine done_ (done_of HT_.out (by kernel_rfl)) ?_
       try go_wp2
       go_roundg k1
       case measure => have := HK1.out; omega
       case rel => exact ⟨(wrap64 (x4_1 + 1)), (y252), (.slice Ao27 y252.length co27), (by first | rfl | (simp; done) | (simp [*]; done)), H', ⟨by have := HK1.out; omega⟩, ⟨by (with_reducible repeat (first | apply Kd.R_alloc | apply Kd.R_drewN | apply Kd.R_drew)); exact Kd.R_mono (Kd.R_far (p := ⟨gb250, 0, none⟩) (Kd.R_types HO254.out BK250.out (by decide)) (fun _ hk => hk.2) (.slice Ao27 y252.length co27)) (fun _ hk => trivial)⟩, ⟨by (with_reducible repeat (first | apply Kd.R_alloc | apply Kd.R_drewN | apply Kd.R_drew)); exact Kd.R_mono (Kd.R_far (p := ⟨gb250, 0, none⟩) (Kd.R_types HO_251002.out BK250.out (by decide)) (fun _ hk => hk.2) (.slice Ao27 y252.length co27)) (fun _ hk => trivial)⟩, ⟨by (with_reducible repeat first | apply bn | apply bd | apply ba); refine blk_far ?_ NB242_250.out _; (with_reducible repeat first | apply bn | apply bd | apply ba); exact BK242.out⟩, ⟨by (with_reducible repeat first | apply bn | apply bd | apply ba); refine blk_far ?_ NB243_250.out _; (with_reducible repeat first | apply bn | apply bd | apply ba); exact BK243.out⟩, ⟨by (with_reducible repeat first | apply bn | apply bd | apply ba); refine blk_put (cs := #[u251000, .slice none 0 0, .slice Ao12 y247.length co12, .int .u8 a0_3, .int .u8 a0_4, .int .u8 a0_5]) ?_ 0 _ rfl; (with_reducible repeat first | apply bn | apply bd | apply ba); exact BK250.out⟩, ⟨by repeat (first | (with_reducible first | exact HB.out | apply wa | apply wn | apply wd | refine ws ?_ GE242.out | refine ws ?_ GE243.out | refine ws ?_ GE250.out) | exact HB.out)⟩⟩
      ·rw [if_neg c21] at H
       exact absurd H (by simp)
     ·rw [if_neg c20] at H
      exact absurd H (by simp)
    ·rw [if_neg c19] at H
     have c19b0 : decide (x4_1 < (l0_0.length : Int)) = false := decide_eq_false c19
     clear c19
     have H' := asd H
     clear H
     have hnb29 := NB242_243.out
     have hnc29 := NB243_242.out
     have hnb30 := NB242_250.out
     have hnc30 := NB250_242.out
     have hcz31_0 : wr.cell? ⟨gb242, 0, none⟩ = some (.slice A0_0 l0_0.length c0_0) := (blk_cell BK242.out 0).trans rfl
     have hcz31_1 : wr.cell? ⟨gb242, 1, none⟩ = some (.slice A0_1 l0_1.length c0_1) := (blk_cell BK242.out 1).trans rfl
     have hcz31_2 : wr.cell? ⟨gb242, 2, none⟩ = some (.slice A0_2 l0_2.length c0_2) := (blk_cell BK242.out 2).trans rfl
     have hcz31_3 : wr.cell? ⟨gb242, 3, none⟩ = some (.int .u8 a0_3) := (blk_cell BK242.out 3).trans rfl
     have hcz31_4 : wr.cell? ⟨gb242, 4, none⟩ = some (.int .u8 a0_4) := (blk_cell BK242.out 4).trans rfl
     have hcz31_5 : wr.cell? ⟨gb242, 5, none⟩ = some (.int .u8 a0_5) := (blk_cell BK242.out 5).trans rfl
     have hfz31_0 := blk_frozen BK242.out 0
     have hfz31_1 := blk_frozen BK242.out 1
     have hfz31_2 := blk_frozen BK242.out 2
     have hfz31_3 := blk_frozen BK242.out 3
     have hfz31_4 := blk_frozen BK242.out 4
     have hfz31_5 := blk_frozen BK242.out 5
     go_wp2
     go_loopg [5] k1 (fun kq v5 w' => ∃ (x5_2 : Int) (x251001_2 : List (S57)) (u251001 : Value), v5 = .int .i64 x5_2 ∧ Aside0 (parcloselaw03_RefPart.l1 kq x5_2 l0_0 l0_1 l0_2 a0_3 a0_4 a0_5 x251000_1 x251001_2 y247 a0_3 a0_4 a0_5 = some (r1, r2, r3, r4, r5, r6)) ∧ Aside0 (kq ≤ k1) ∧ Aside0 (Kd.R k56 56 w' w.heap.size (fun _ => True) u251000 x251000_1) ∧ Aside0 (Kd.R k57 57 w' w.heap.size (fun _ => True) u251001 x251001_2) ∧ Aside0 (Kd.R (Kd.int .i64) 3 w' w.heap.size (fun _ => True) (.slice Ao12 y247.length co12) y247) ∧ Aside0 (w'.heap[gb242]? = some (.cells #[(.slice A0_0 l0_0.length c0_0), (.slice A0_1 l0_1.length c0_1), (.slice A0_2 l0_2.length c0_2), .int .u8 a0_3, .int .u8 a0_4, .int .u8 a0_5] 49 (0, 0))) ∧ Aside0 (w'.heap[gb243]? = some (.cells #[(.slice none 0 0), (.slice none 0 0), (.slice none 0 0), .int .u8 0, .int .u8 0, .int .u8 0] 61 (0, 0))) ∧ Aside0 (w'.heap[gb250]? = some (.cells #[u251000, u251001, (.slice Ao12 y247.length co12), .int .u8 a0_3, .int .u8 a0_4, .int .u8 a0_5] 61 (0, 0))) ∧ Aside0 (Below w.heap.size w w'))
     case atStart => exact ⟨(0), (([] : List (S57))), (.slice none 0 0), (by first | rfl | (simp; done) | (simp [*]; done)), H', ⟨Nat.le_refl _⟩, ⟨by (with_reducible repeat (first | apply Kd.R_alloc | apply Kd.R_drewN | apply Kd.R_drew)); exact HO_251000.out⟩, ⟨by first | exact Kd.R_nil _ _ _ _ _ | exact Kd.N_nil _ _ _ _ _ | exact Kd.V_nil _ _ _ _ _ | exact Kd.Q_nil _ _ _ _ _ | exact Kd.S_nil _ _ _ _ _⟩, ⟨by (with_reducible repeat (first | apply Kd.R_alloc | apply Kd.R_drewN | apply Kd.R_drew)); exact HO_251002.out⟩, ⟨by (with_reducible repeat first | apply bn | apply bd | apply ba); exact BK242.out⟩, ⟨by (with_reducible repeat first | apply bn | apply bd | apply ba); exact BK243.out⟩, ⟨by (with_reducible repeat first | apply bn | apply bd | apply ba); exact BK250.out⟩, ⟨by repeat (first | (with_reducible first | exact HB.out | apply wa | apply wn | apply wd | refine ws ?_ GE242.out | refine ws ?_ GE243.out | refine ws ?_ GE250.out) | exact HB.out)⟩⟩
     case round =>
      clear H'
      try clear c1
      try clear c2
      try clear p2
      try clear q2
      try clear hx2
      try clear c3
      try clear c5
      try clear p6
      try clear c19
      try clear c19b0
      try clear c20
      try clear c20b0
      try clear c21
      try clear c22
      try clear c23
      try clear p25
      try clear q25
      try clear hx25
      try clear c29
      try clear c30
      try clear hcz24_0
      try clear hcz24_1
      try clear hcz24_2
      try clear hcz24_3
      try clear hcz24_4
      try clear hcz24_5
      try clear hcz31_0
      try clear hcz31_1
      try clear hcz31_2
      try clear hcz31_3
      try clear hcz31_4
      try clear hcz31_5
      try clear hfz24_0
      try clear hfz24_1
      try clear hfz24_2
      try clear hfz24_3
      try clear hfz24_4
      try clear hfz24_5
      try clear hfz31_0
      try clear hfz31_1
      try clear hfz31_2
      try clear hfz31_3
      try clear hfz31_4
      try clear hfz31_5
      try clear hx251_0
      try clear hx251_1
      try clear hx251_2
      try clear hx251_3
      try clear hx251_4
      try clear hx251_5
      try clear p2
      try clear p251
      try clear q251
      obtain ⟨x5_2, x251001_2, u251001, rfl, HA, HK2, HO_251000, HO_251001, HO_251002, BK242, BK243, BK250, HB⟩ := hrel
      cases gk with
      | zero => exact absurd HA.out (by simp [parcloselaw03_RefPart.l1])
      | succ k2 =>
       have H := HA.out
       clear HA
       simp only [parcloselaw03_RefPart.l1] at H
       by_cases c32 : x5_2 < (l0_1.length : Int)
       ·rw [if_pos c32] at H
        have c32b0 : decide (x5_2 < (l0_1.length : Int)) = true := decide_eq_true c32
        clear c32
        by_cases c33 : 0 ≤ x5_2
        ·rw [if_pos c33] at H
         have c33b0 : decide (0 ≤ x5_2) = true := decide_eq_true c33
         clear c33
         by_cases c34 : x251001_2.length < 5864062014805
         ·rw [if_pos c34] at H
          have LMc34 := asd c34
          clear c34
          obtain ⟨y256, hy256⟩ : ∃ y_ : List (S57), y_ = (x251001_2 ++ [(⟨(rd_T53 l0_1 x5_2).f0, (rd_T53 l0_1 x5_2).f1, (rd_T53 l0_1 x5_2).f2⟩ : S57)]) := ⟨_, rfl⟩
          replace H : (parcloselaw03_RefPart.l1 k2 (wrap64 (x5_2 + 1)) l0_0 l0_1 l0_2 a0_3 a0_4 a0_5 x251000_1 y256 y247 a0_3 a0_4 a0_5) = some (r1, r2, r3, r4, r5, r6) := by first | (rw [hy256]; with_reducible exact H) | (have H2_ := (Option.bind_some _ _).symm.trans H; rw [hy256]; with_reducible exact H2_) | (have H2_ := (Option.bind_some _ _).symm.trans H; with_reducible exact H2_) | with_reducible exact H | (rw [hy256]; exact H) | exact H
          have Ny256 := asd hy256
          clear hy256
          have H' := asd H
          clear H
          have hnb35 := NB242_243.out
          have hnc35 := NB243_242.out
          have hnb36 := NB242_250.out
          have hnc36 := NB250_242.out
          have hcz37_0 : wr.cell? ⟨gb242, 0, none⟩ = some (.slice A0_0 l0_0.length c0_0) := (blk_cell BK242.out 0).trans rfl
          have hcz37_1 : wr.cell? ⟨gb242, 1, none⟩ = some (.slice A0_1 l0_1.length c0_1) := (blk_cell BK242.out 1).trans rfl
          have hcz37_2 : wr.cell? ⟨gb242, 2, none⟩ = some (.slice A0_2 l0_2.length c0_2) := (blk_cell BK242.out 2).trans rfl
          have hcz37_3 : wr.cell? ⟨gb242, 3, none⟩ = some (.int .u8 a0_3) := (blk_cell BK242.out 3).trans rfl
          have hcz37_4 : wr.cell? ⟨gb242, 4, none⟩ = some (.int .u8 a0_4) := (blk_cell BK242.out 4).trans rfl
          have hcz37_5 : wr.cell? ⟨gb242, 5, none⟩ = some (.int .u8 a0_5) := (blk_cell BK242.out 5).trans rfl
          have hfz37_0 := blk_frozen BK242.out 0
          have hfz37_1 := blk_frozen BK242.out 1
          have hfz37_2 := blk_frozen BK242.out 2
          have hfz37_3 := blk_frozen BK242.out 3
          have hfz37_4 := blk_frozen BK242.out 4
          have hfz37_5 := blk_frozen BK242.out 5
          try go_wp2
          have n0_ := asd (Kd.R_drew HO_251000.out)
          have n1_ := asd (Kd.R_drew HO_251001.out)
          have n2_ := asd (Kd.R_drew HO_251002.out)
          have n3_ := asd (blk_drew BK242.out)
          have n4_ := asd (blk_drew BK243.out)
          have n5_ := asd (blk_drew BK250.out)
          have n6_ := asd (below_drew1 HB.out)
          clear HO_251000
          clear HO_251001
          clear HO_251002
          clear BK242
          clear BK243
          clear BK250
          clear HB
          have HO_251000 := n0_
          have HO_251001 := n1_
          have HO_251002 := n2_
          have BK242 := n3_
          have BK243 := n4_
          have BK250 := n5_
          have HB := n6_
          clear n0_ n1_ n2_ n3_ n4_ n5_ n6_
          have p255 : 0 ≤ (x5_2 : Int) := of_decide_eq_true (by assumption)
          have q255 : x5_2 < (l0_1.length : Int) := of_decide_eq_true (by assumption)
          obtain ⟨ad255, e255, hx255_0, hx255_1, hx255_2⟩ := at_T53 HR0_1.out x5_2 p255 q255
          have hw255_2 := hx255_2
          have hw255_1 := hx255_1
          have hw255_0 := hx255_0
          cases e255
          replace hx255_0 := (HB.out.cell (World.block_lt_of_cell? w _ hx255_0)).trans hx255_0
          replace hx255_1 := (HB.out.cell (World.block_lt_of_cell? w _ hx255_1)).trans hx255_1
          replace hx255_2 := (HB.out.cell (World.block_lt_of_cell? w _ hx255_2)).trans hx255_2
          replace p255 := eq_true p255
          replace q255 := eq_true q255
          refine start_ (n := 11) (S := fun w' => w'.cell? ⟨gb250, 0, none⟩ = some (u251000) ∧ w'.cell? ⟨gb250, 1, none⟩ = some (u251001) ∧ w'.cell? ⟨gb250, 2, none⟩ = some (.slice Ao12 y247.length co12) ∧ w'.cell? ⟨gb250, 3, none⟩ = some (.int .u8 a0_3) ∧ w'.cell? ⟨gb250, 4, none⟩ = some (.int .u8 a0_4) ∧ w'.cell? ⟨gb250, 5, none⟩ = some (.int .u8 a0_5) ∧ w'.cell? ⟨gb242, 0, none⟩ = some (.slice A0_0 l0_0.length c0_0) ∧ w'.cell? ⟨gb242, 1, none⟩ = some (.slice (some ad255) l0_1.length c0_1) ∧ w'.cell? ⟨gb242, 2, none⟩ = some (.slice A0_2 l0_2.length c0_2) ∧ w'.cell? ⟨gb242, 3, none⟩ = some (.int .u8 a0_3) ∧ w'.cell? ⟨gb242, 4, none⟩ = some (.int .u8 a0_4) ∧ w'.cell? ⟨gb242, 5, none⟩ = some (.int .u8 a0_5) ∧ w'.cell? (ad255.add ((x5_2).toNat * 3)) = some (.bool ((rd_T53 l0_1 x5_2).f0)) ∧ w'.cell? ⟨(ad255.add ((x5_2).toNat * 3)).block, (ad255.add ((x5_2).toNat * 3)).off + 1, none⟩ = some (.int .i64 ((rd_T53 l0_1 x5_2).f1)) ∧ w'.cell? ⟨(ad255.add ((x5_2).toNat * 3)).block, (ad255.add ((x5_2).toNat * 3)).off + 2, none⟩ = some (.int .i64 ((rd_T53 l0_1 x5_2).f2))) (ds := [10]) #[false, false, false, false, false, false, false, false, false, false, false] (by kernel_rfl) rfl rfl ⟨(blk_cell BK250.out 0).trans rfl, (blk_cell BK250.out 1).trans rfl, (blk_cell BK250.out 2).trans rfl, (blk_cell BK250.out 3).trans rfl, (blk_cell BK250.out 4).trans rfl, (blk_cell BK250.out 5).trans rfl, (blk_cell BK242.out 0).trans rfl, (blk_cell BK242.out 1).trans rfl, (blk_cell BK242.out 2).trans rfl, (blk_cell BK242.out 3).trans rfl, (blk_cell BK242.out 4).trans rfl, (blk_cell BK242.out 5).trans rfl, ((HB.out.cell (World.block_lt_of_cell? w _ hw255_0)).trans hw255_0), ((HB.out.cell (World.block_lt_of_cell? w _ hw255_1)).trans hw255_1), ((HB.out.cell (World.block_lt_of_cell? w _ hw255_2)).trans hw255_2)⟩ (fun hHeld => ?_); refine with_tabW parcloselaw03_RefPart.tab9 parcloselaw03_RefPart.bits9 (fun HT_ HW_ => ?_)
          generalize wr.drew = w38 at HO_251000 HO_251001 HO_251002 BK242 BK243 BK250 HB hx255_0 hx255_1 hx255_2 hHeld ⊢
          refine pure_ (i := 0) (N := some 37) (v := ?_) (a' := ?_) #[true, false, false, false, false, false, false, false, false, false, false] rfl rfl (any_of HT_.out (by kernel_rfl)) (fun _ _ _ h => h) (Or.inl ⟨by rfl, ?_⟩) ?_ ?_
          rotate_left
          ·intro w'
           go_simp
           with_reducible rfl
          rotate_left
          ·simp only [Act.put, sB, i64_w, i32_w]
           rfl
          refine pure_ (i := 2) (N := some 39) (v := ?_) (a' := ?_) #[true, false, true, false, false, false, false, false, false, false, false] rfl rfl (any_of HT_.out (by kernel_rfl)) (fun _ _ _ h => h) (Or.inl ⟨by rfl, ?_⟩) ?_ ?_
          rotate_left
          ·intro w'
           go_simp
           with_reducible rfl
          rotate_left
          ·simp only [Act.put, sB, i64_w, i32_w]
           rfl
          refine pure_ (i := 4) (N := some 41) (v := ?_) (a' := ?_) #[true, false, true, false, true, false, false, false, false, false, false] rfl rfl (any_of HT_.out (by kernel_rfl)) (fun _ _ _ h => h) (Or.inl ⟨by rfl, ?_⟩) ?_ ?_
          rotate_left
          ·intro w'
           go_simp
           with_reducible rfl
          rotate_left
          ·simp only [Act.put, sB, i64_w, i32_w]
           rfl
          refine take_ (i := 1) (N := some 38) (v := ?_) (a' := ?_) #[true, true, true, false, true, false, false, false, false, false, false] rfl rfl (take_ofW HT_.out HW_.out (by kernel_rfl)) (fun _ _ _ h => h) (Or.inl ⟨by rfl, ?_⟩) hHeld ?_ ?_
          rotate_left
          ·rintro w' ⟨s0, s1, s2, s3, s4, s5, s6, s7, s8, s9, s10, s11, s12, s13, s14⟩
           go_simp
           with_reducible rfl
          rotate_left
          ·simp only [Act.put, sB, i64_w, i32_w]
           rfl
          refine take_ (i := 3) (N := some 40) (v := ?_) (a' := ?_) #[true, true, true, true, true, false, false, false, false, false, false] rfl rfl (take_ofW HT_.out HW_.out (by kernel_rfl)) (fun _ _ _ h => h) (Or.inl ⟨by rfl, ?_⟩) hHeld ?_ ?_
          rotate_left
          ·rintro w' ⟨s0, s1, s2, s3, s4, s5, s6, s7, s8, s9, s10, s11, s12, s13, s14⟩
           go_simp
           with_reducible rfl
          rotate_left
          ·simp only [Act.put, sB, i64_w, i32_w]
           rfl
          refine pure_ (i := 5) (N := some 42) (v := ?_) (a' := ?_) #[true, true, true, true, true, true, false, false, false, false, false] rfl rfl (any_of HT_.out (by kernel_rfl)) (fun _ _ _ h => h) (Or.inl ⟨by rfl, ?_⟩) ?_ ?_
          rotate_left
          ·intro w'
           go_simp
           with_reducible rfl
          rotate_left
          ·simp only [Act.put, sB, i64_w, i32_w]
           rfl
          refine take_ (i := 6) (N := some 43) (v := ?_) (a' := ?_) #[true, true, true, true, true, true, true, false, false, false, false] rfl rfl (take_ofW HT_.out HW_.out (by kernel_rfl)) (fun _ _ _ h => h) (Or.inl ⟨by rfl, ?_⟩) hHeld ?_ ?_
          rotate_left
          ·rintro w' ⟨s0, s1, s2, s3, s4, s5, s6, s7, s8, s9, s10, s11, s12, s13, s14⟩
           go_simp
           with_reducible rfl
          rotate_left
          ·simp only [Act.put, sB, i64_w, i32_w]
           rfl
          refine one_ (i := 7) (N := some 44) #[true, true, true, true, true, true, true, true, false, false, false] rfl rfl (one_of HT_.out (by kernel_rfl)) (by decide) (fun K hK => ?_)
          refine value_ (w1 := ?_) (v := ?_) (by rfl) rfl ?_ ?_
          rotate_left 2
          ·go_simp
           constructor
           ·rfl
           ·rfl
          refine hK.out _ _ ⟨(blk_cell (blk_alloc BK250.out _) 0).trans rfl, (blk_cell (blk_alloc BK250.out _) 1).trans rfl, (blk_cell (blk_alloc BK250.out _) 2).trans rfl, (blk_cell (blk_alloc BK250.out _) 3).trans rfl, (blk_cell (blk_alloc BK250.out _) 4).trans rfl, (blk_cell (blk_alloc BK250.out _) 5).trans rfl, (blk_cell (blk_alloc BK242.out _) 0).trans rfl, (blk_cell (blk_alloc BK242.out _) 1).trans rfl, (blk_cell (blk_alloc BK242.out _) 2).trans rfl, (blk_cell (blk_alloc BK242.out _) 3).trans rfl, (blk_cell (blk_alloc BK242.out _) 4).trans rfl, (blk_cell (blk_alloc BK242.out _) 5).trans rfl, (World.cell?_alloc_lt _ _ _ (World.block_lt_of_cell? _ _ (((HB.out.cell (World.block_lt_of_cell? w _ hw255_0)).trans hw255_0)))).trans (((HB.out.cell (World.block_lt_of_cell? w _ hw255_0)).trans hw255_0)), (World.cell?_alloc_lt _ _ _ (World.block_lt_of_cell? _ _ (((HB.out.cell (World.block_lt_of_cell? w _ hw255_1)).trans hw255_1)))).trans (((HB.out.cell (World.block_lt_of_cell? w _ hw255_1)).trans hw255_1)), (World.cell?_alloc_lt _ _ _ (World.block_lt_of_cell? _ _ (((HB.out.cell (World.block_lt_of_cell? w _ hw255_2)).trans hw255_2)))).trans (((HB.out.cell (World.block_lt_of_cell? w _ hw255_2)).trans hw255_2))⟩ (fun hHeld => ?_)
          clear hK K
          refine norm_ (a' := ?_) ?_ ?_
          rotate_left
          ·show Act.put _ (some 44) _ = _
           simp only [Act.put, sB, i64_w, i32_w]
           rfl
          refine one_ (i := 8) (N := some 45) #[true, true, true, true, true, true, true, true, true, false, false] rfl rfl (one_of HT_.out (by kernel_rfl)) (by decide) (fun K hK => ?_)
          refine Kd.R_append_step k57 (w0 := w) w.heap.size (by rfl) (.tmp 38) (.tmp 44) 59 57 (.agg #[(.bool false), (.int .i64 0), (.int .i64 0)]) 24 rfl Try.underlying59 info57 rfl (by decide) (by omega) u251001 x251001_2 (⟨(rd_T53 l0_1 x5_2).f0, (rd_T53 l0_1 x5_2).f1, (rd_T53 l0_1 x5_2).f2⟩ : S57) [.bool ((rd_T53 l0_1 x5_2).f0), .int .i64 ((rd_T53 l0_1 x5_2).f1), .int .i64 ((rd_T53 l0_1 x5_2).f2)] (fun _ => True) (fun _ => False) rfl rfl ?aP (fun _ hk => hk.elim) ?aF ?aO ?aB ?aS ?aL ?_
          (case aP => exact k57_mkM _ _ _ (⟨(rd_T53 l0_1 x5_2).f0, (rd_T53 l0_1 x5_2).f1, (rd_T53 l0_1 x5_2).f2⟩ : S57))
          (case aB => exact (by repeat (first | (with_reducible first | exact HB.out | apply wa | apply wn | apply wd | refine ws ?_ GE242.out | refine ws ?_ GE243.out | refine ws ?_ GE250.out) | exact HB.out)))
          (case aF => exact (fun _ _ => trivial))
          (case aO => exact (by (with_reducible repeat (first | apply Kd.R_alloc | apply Kd.R_drewN | apply Kd.R_drew)); exact HO_251001.out))
          (case aS => exact (below_size (by repeat (first | (with_reducible first | exact HB.out | apply wa | apply wn | apply wd | refine ws ?_ GE242.out | refine ws ?_ GE243.out | refine ws ?_ GE250.out) | exact HB.out))))
          (case aL => have := LMc34.out; omega)
          intro v257 w39 ho hb hg hat
          rw [← Ny256.out] at ho
          have n0_ := asd (Kd.R_over' (by (with_reducible repeat (first | apply Kd.R_alloc | apply Kd.R_drewN | apply Kd.R_drew)); exact HO_251000.out) (Kd.R_typed (by (with_reducible repeat (first | apply Kd.R_alloc | apply Kd.R_drewN | apply Kd.R_drew)); exact HO_251001.out)) (by decide) hg)
          have n1_ := asd (Kd.R_over' (by (with_reducible repeat (first | apply Kd.R_alloc | apply Kd.R_drewN | apply Kd.R_drew)); exact HO_251002.out) (Kd.R_typed (by (with_reducible repeat (first | apply Kd.R_alloc | apply Kd.R_drewN | apply Kd.R_drew)); exact HO_251001.out)) (by decide) hg)
          have n2_ := asd (blk_grown (g := gb242) (o := .cells #[.slice A0_0 l0_0.length c0_0, .slice (some ad255) l0_1.length c0_1, .slice A0_2 l0_2.length c0_2, .int .u8 a0_3, .int .u8 a0_4, .int .u8 a0_5] 49 (0, 0)) (by (with_reducible repeat first | apply bn | apply bd | apply ba); exact BK242.out) hg (Kd.R_ne HO_251001.out BK242.out (by decide)))
          have n3_ := asd (blk_grown (g := gb243) (o := .cells #[.slice none 0 0, .slice none 0 0, .slice none 0 0, .int .u8 0, .int .u8 0, .int .u8 0] 61 (0, 0)) (by (with_reducible repeat first | apply bn | apply bd | apply ba); exact BK243.out) hg (Kd.R_ne HO_251001.out BK243.out (by decide)))
          have n4_ := asd (blk_grown (g := gb250) (o := .cells #[u251000, u251001, .slice Ao12 y247.length co12, .int .u8 a0_3, .int .u8 a0_4, .int .u8 a0_5] 61 (0, 0)) (by (with_reducible repeat first | apply bn | apply bd | apply ba); exact BK250.out) hg (Kd.R_ne HO_251001.out BK250.out (by decide)))
          have n5_ := asd (hb)
          have n6_ := asd (ho)
          clear HO_251000
          clear HO_251002
          clear BK242
          clear BK243
          clear BK250
          clear HB
          clear HO_251001
          have HO_251000 := n0_
          have HO_251002 := n1_
          have BK242 := n2_
          have BK243 := n3_
          have BK250 := n4_
          have HB := n5_
          have HO258 := n6_
          clear n0_ n1_ n2_ n3_ n4_ n5_ n6_
          clear ho hb hg hat
          obtain ⟨Ao40, co40, eo40⟩ := Kd.R_slice HO258.out
          (first | subst eo40 | (injection eo40 with f1_ f2_ f3_; have f4_ := f1_.symm; have f5_ := f3_.symm; clear f1_ f2_ f3_; subst f4_; subst f5_))
          refine hK.out _ _ ⟨(blk_cell BK250.out 0).trans rfl, (blk_cell BK250.out 1).trans rfl, (blk_cell BK250.out 2).trans rfl, (blk_cell BK250.out 3).trans rfl, (blk_cell BK250.out 4).trans rfl, (blk_cell BK250.out 5).trans rfl, (blk_cell BK242.out 0).trans rfl, (blk_cell BK242.out 1).trans rfl, (blk_cell BK242.out 2).trans rfl, (blk_cell BK242.out 3).trans rfl, (blk_cell BK242.out 4).trans rfl, (blk_cell BK242.out 5).trans rfl, ((HB.out.cell (World.block_lt_of_cell? w _ hw255_0)).trans hw255_0), ((HB.out.cell (World.block_lt_of_cell? w _ hw255_1)).trans hw255_1), ((HB.out.cell (World.block_lt_of_cell? w _ hw255_2)).trans hw255_2)⟩ (fun hHeld => ?_)
          clear hK K
          refine norm_ (a' := ?_) ?_ ?_
          rotate_left
          ·show Act.put _ (some 45) _ = _
           simp only [Act.put, sB, i64_w, i32_w]
           rfl
          refine pure_ (i := 9) (N := some 46) (v := ?_) (a' := ?_) #[true, true, true, true, true, true, true, true, true, true, false] rfl rfl (any_of HT_.out (by kernel_rfl)) (fun _ _ _ h => h) (Or.inl ⟨by rfl, ?_⟩) ?_ ?_
          rotate_left
          ·intro w'
           go_simp
           with_reducible rfl
          rotate_left
          ·simp only [Act.put, sB, i64_w, i32_w]
           rfl
          refine last_ (i := 10) (N := none) #[true, true, true, true, true, true, true, true, true, true, true] rfl rfl (one_of HT_.out (by kernel_rfl)) (by decide) (fun K hK => ?_)
          have hs41 : w39.cell? ⟨gb250, 1, none⟩ = some (u251001) := (blk_cell BK250.out 1).trans rfl
          have hfs41 := blk_frozen BK250.out 1
          have hns41_0 := NB242_250.out
          have hns41_1 := NB243_250.out
          have hms41_0 := NB250_242.out
          have hms41_1 := NB250_243.out
          refine skip_ (w1 := ?_) (by rfl) rfl ?_ ?_
          rotate_left
          ·go_simp
           rfl
          refine hK.out _ _ ?_
          clear hK K
          refine done_ (done_of HT_.out (by kernel_rfl)) ?_
          try go_wp2
          go_roundg k2
          case measure => have := HK1.out; have := HK2.out; omega
          case rel => exact ⟨(wrap64 (x5_2 + 1)), (y256), (.slice Ao40 y256.length co40), (by first | rfl | (simp; done) | (simp [*]; done)), H', ⟨by have := HK1.out; have := HK2.out; omega⟩, ⟨by (with_reducible repeat (first | apply Kd.R_alloc | apply Kd.R_drewN | apply Kd.R_drew)); exact Kd.R_mono (Kd.R_far (p := ⟨gb250, 1, none⟩) (Kd.R_types HO_251000.out BK250.out (by decide)) (fun _ hk => hk.2) (.slice Ao40 y256.length co40)) (fun _ hk => trivial)⟩, ⟨by (with_reducible repeat (first | apply Kd.R_alloc | apply Kd.R_drewN | apply Kd.R_drew)); exact Kd.R_mono (Kd.R_far (p := ⟨gb250, 1, none⟩) (Kd.R_types HO258.out BK250.out (by decide)) (fun _ hk => hk.2) (.slice Ao40 y256.length co40)) (fun _ hk => trivial)⟩, ⟨by (with_reducible repeat (first | apply Kd.R_alloc | apply Kd.R_drewN | apply Kd.R_drew)); exact Kd.R_mono (Kd.R_far (p := ⟨gb250, 1, none⟩) (Kd.R_types HO_251002.out BK250.out (by decide)) (fun _ hk => hk.2) (.slice Ao40 y256.length co40)) (fun _ hk => trivial)⟩, ⟨by (with_reducible repeat first | apply bn | apply bd | apply ba); refine blk_far ?_ NB242_250.out _; (with_reducible repeat first | apply bn | apply bd | apply ba); exact BK242.out⟩, ⟨by (with_reducible repeat first | apply bn | apply bd | apply ba); refine blk_far ?_ NB243_250.out _; (with_reducible repeat first | apply bn | apply bd | apply ba); exact BK243.out⟩, ⟨by (with_reducible repeat first | apply bn | apply bd | apply ba); refine blk_put (cs := #[u251000, u251001, .slice Ao12 y247.length co12, .int .u8 a0_3, .int .u8 a0_4, .int .u8 a0_5]) ?_ 1 _ rfl; (with_reducible repeat first | apply bn | apply bd | apply ba); exact BK250.out⟩, ⟨by repeat (first | (with_reducible first | exact HB.out | apply wa | apply wn | apply wd | refine ws ?_ GE242.out | refine ws ?_ GE243.out | refine ws ?_ GE250.out) | exact HB.out)⟩⟩
         ·rw [if_neg c34] at H
          exact absurd H (by simp)
        ·rw [if_neg c33] at H
         exact absurd H (by simp)
       ·rw [if_neg c32] at H
        have c32b0 : decide (x5_2 < (l0_1.length : Int)) = false := decide_eq_false c32
        clear c32
        simp only [Option.some.injEq, Prod.mk.injEq] at H
        obtain ⟨rfl, rfl, rfl, rfl, rfl, rfl⟩ := H
        have hnb42 := NB242_243.out
        have hnc42 := NB243_242.out
        have hnb43 := NB242_250.out
        have hnc43 := NB250_242.out
        have hcz44_0 : wr.cell? ⟨gb242, 0, none⟩ = some (.slice A0_0 l0_0.length c0_0) := (blk_cell BK242.out 0).trans rfl
        have hcz44_1 : wr.cell? ⟨gb242, 1, none⟩ = some (.slice A0_1 l0_1.length c0_1) := (blk_cell BK242.out 1).trans rfl
        have hcz44_2 : wr.cell? ⟨gb242, 2, none⟩ = some (.slice A0_2 l0_2.length c0_2) := (blk_cell BK242.out 2).trans rfl
        have hcz44_3 : wr.cell? ⟨gb242, 3, none⟩ = some (.int .u8 a0_3) := (blk_cell BK242.out 3).trans rfl
        have hcz44_4 : wr.cell? ⟨gb242, 4, none⟩ = some (.int .u8 a0_4) := (blk_cell BK242.out 4).trans rfl
        have hcz44_5 : wr.cell? ⟨gb242, 5, none⟩ = some (.int .u8 a0_5) := (blk_cell BK242.out 5).trans rfl
        have hfz44_0 := blk_frozen BK242.out 0
        have hfz44_1 := blk_frozen BK242.out 1
        have hfz44_2 := blk_frozen BK242.out 2
        have hfz44_3 := blk_frozen BK242.out 3
        have hfz44_4 := blk_frozen BK242.out 4
        have hfz44_5 := blk_frozen BK242.out 5
        have hnb45 := NB250_243.out
        have hnc45 := NB243_250.out
        have hcz46_0 : wr.cell? ⟨gb250, 0, none⟩ = some (u251000) := (blk_cell BK250.out 0).trans rfl
        have hcz46_1 : wr.cell? ⟨gb250, 1, none⟩ = some (u251001) := (blk_cell BK250.out 1).trans rfl
        have hcz46_2 : wr.cell? ⟨gb250, 2, none⟩ = some (.slice Ao12 y247.length co12) := (blk_cell BK250.out 2).trans rfl
        have hcz46_3 : wr.cell? ⟨gb250, 3, none⟩ = some (.int .u8 a0_3) := (blk_cell BK250.out 3).trans rfl
        have hcz46_4 : wr.cell? ⟨gb250, 4, none⟩ = some (.int .u8 a0_4) := (blk_cell BK250.out 4).trans rfl
        have hcz46_5 : wr.cell? ⟨gb250, 5, none⟩ = some (.int .u8 a0_5) := (blk_cell BK250.out 5).trans rfl
        have hfz46_0 := blk_frozen BK250.out 0
        have hfz46_1 := blk_frozen BK250.out 1
        have hfz46_2 := blk_frozen BK250.out 2
        have hfz46_3 := blk_frozen BK250.out 3
        have hfz46_4 := blk_frozen BK250.out 4
        have hfz46_5 := blk_frozen BK250.out 5
        obtain ⟨Ao47, co47, eo47⟩ := Kd.R_slice HO_251000.out
        subst eo47
        have hcz48_0 : wr.cell? ⟨gb243, 0, none⟩ = some (.slice none 0 0) := (blk_cell BK243.out 0).trans rfl
        have hcz48_1 : wr.cell? ⟨gb243, 1, none⟩ = some (.slice none 0 0) := (blk_cell BK243.out 1).trans rfl
        have hcz48_2 : wr.cell? ⟨gb243, 2, none⟩ = some (.slice none 0 0) := (blk_cell BK243.out 2).trans rfl
        have hcz48_3 : wr.cell? ⟨gb243, 3, none⟩ = some (.int .u8 0) := (blk_cell BK243.out 3).trans rfl
        have hcz48_4 : wr.cell? ⟨gb243, 4, none⟩ = some (.int .u8 0) := (blk_cell BK243.out 4).trans rfl
        have hcz48_5 : wr.cell? ⟨gb243, 5, none⟩ = some (.int .u8 0) := (blk_cell BK243.out 5).trans rfl
        have hfz48_0 := blk_frozen BK243.out 0
        have hfz48_1 := blk_frozen BK243.out 1
        have hfz48_2 := blk_frozen BK243.out 2
        have hfz48_3 := blk_frozen BK243.out 3
        have hfz48_4 := blk_frozen BK243.out 4
        have hfz48_5 := blk_frozen BK243.out 5
        obtain ⟨Ao49, co49, eo49⟩ := Kd.R_slice HO_251001.out
        subst eo49
        go_wp2
        refine bodyPost_ret (results_cell_row rfl _ _ gb243 61 #[.slice Ao47 x251000_1.length co47, .slice Ao49 x251001_2.length co49, .slice Ao12 y247.length co12, .int .u8 a0_3, .int .u8 a0_4, .int .u8 a0_5] (0, 0) _ rfl (by (with_reducible repeat first | apply bn | apply bd | apply ba); refine blk_put (cs := #[.slice Ao47 x251000_1.length co47, .slice Ao49 x251001_2.length co49, .slice Ao12 y247.length co12, .int .u8 a0_3, .int .u8 a0_4, .int .u8 0]) ?_ 5 _ rfl; (with_reducible repeat first | apply bn | apply bd | apply ba); refine blk_put (cs := #[.slice Ao47 x251000_1.length co47, .slice Ao49 x251001_2.length co49, .slice Ao12 y247.length co12, .int .u8 a0_3, .int .u8 0, .int .u8 0]) ?_ 4 _ rfl; (with_reducible repeat first | apply bn | apply bd | apply ba); refine blk_put (cs := #[.slice Ao47 x251000_1.length co47, .slice Ao49 x251001_2.length co49, .slice Ao12 y247.length co12, .int .u8 0, .int .u8 0, .int .u8 0]) ?_ 3 _ rfl; (with_reducible repeat first | apply bn | apply bd | apply ba); refine blk_put (cs := #[.slice Ao47 x251000_1.length co47, .slice Ao49 x251001_2.length co49, .slice none 0 0, .int .u8 0, .int .u8 0, .int .u8 0]) ?_ 2 _ rfl; (with_reducible repeat first | apply bn | apply bd | apply ba); refine blk_put (cs := #[.slice Ao47 x251000_1.length co47, .slice none 0 0, .slice none 0 0, .int .u8 0, .int .u8 0, .int .u8 0]) ?_ 1 _ rfl; (with_reducible repeat first | apply bn | apply bd | apply ba); refine blk_put (cs := #[.slice none 0 0, .slice none 0 0, .slice none 0 0, .int .u8 0, .int .u8 0, .int .u8 0]) ?_ 0 _ rfl; (with_reducible repeat first | apply bn | apply bd | apply ba); exact BK243.out) Try.underlying61 rfl (by kernel_rfl)) rfl ?_
        exact ⟨_, _, _, by first | rfl | (simp [*] <;> rfl), by (with_reducible repeat (first | apply Kd.R_alloc | apply Kd.R_drewN | apply Kd.R_drew)); exact Kd.R_mono (Kd.R_far (p := ⟨gb243, 5, none⟩) (Kd.R_far (p := ⟨gb243, 4, none⟩) (Kd.R_far (p := ⟨gb243, 3, none⟩) (Kd.R_far (p := ⟨gb243, 2, none⟩) (Kd.R_far (p := ⟨gb243, 1, none⟩) (Kd.R_far (p := ⟨gb243, 0, none⟩) (Kd.R_types HO_251000.out BK243.out (by decide)) (fun _ hk => hk.2) (.slice Ao47 x251000_1.length co47)) (fun _ hk => hk.2) (.slice Ao49 x251001_2.length co49)) (fun _ hk => hk.2) (.slice Ao12 y247.length co12)) (fun _ hk => hk.2) (.int .u8 a0_3)) (fun _ hk => hk.2) (.int .u8 a0_4)) (fun _ hk => hk.2) (.int .u8 a0_5)) (fun _ hk => trivial), by (with_reducible repeat (first | apply Kd.R_alloc | apply Kd.R_drewN | apply Kd.R_drew)); exact Kd.R_mono (Kd.R_far (p := ⟨gb243, 5, none⟩) (Kd.R_far (p := ⟨gb243, 4, none⟩) (Kd.R_far (p := ⟨gb243, 3, none⟩) (Kd.R_far (p := ⟨gb243, 2, none⟩) (Kd.R_far (p := ⟨gb243, 1, none⟩) (Kd.R_far (p := ⟨gb243, 0, none⟩) (Kd.R_types HO_251001.out BK243.out (by decide)) (fun _ hk => hk.2) (.slice Ao47 x251000_1.length co47)) (fun _ hk => hk.2) (.slice Ao49 x251001_2.length co49)) (fun _ hk => hk.2) (.slice Ao12 y247.length co12)) (fun _ hk => hk.2) (.int .u8 a0_3)) (fun _ hk => hk.2) (.int .u8 a0_4)) (fun _ hk => hk.2) (.int .u8 a0_5)) (fun _ hk => trivial), by (with_reducible repeat (first | apply Kd.R_alloc | apply Kd.R_drewN | apply Kd.R_drew)); exact Kd.R_mono (Kd.R_far (p := ⟨gb243, 5, none⟩) (Kd.R_far (p := ⟨gb243, 4, none⟩) (Kd.R_far (p := ⟨gb243, 3, none⟩) (Kd.R_far (p := ⟨gb243, 2, none⟩) (Kd.R_far (p := ⟨gb243, 1, none⟩) (Kd.R_far (p := ⟨gb243, 0, none⟩) (Kd.R_types HO_251002.out BK243.out (by decide)) (fun _ hk => hk.2) (.slice Ao47 x251000_1.length co47)) (fun _ hk => hk.2) (.slice Ao49 x251001_2.length co49)) (fun _ hk => hk.2) (.slice Ao12 y247.length co12)) (fun _ hk => hk.2) (.int .u8 a0_3)) (fun _ hk => hk.2) (.int .u8 a0_4)) (fun _ hk => hk.2) (.int .u8 a0_5)) (fun _ hk => trivial), by repeat (first | (with_reducible first | exact HB.out | apply wa | apply wn | apply wd | refine ws ?_ GE242.out | refine ws ?_ GE243.out | refine ws ?_ GE250.out) | exact HB.out)⟩
 ·rw [if_neg c2] at H
  exact absurd H (by simp)
end Go.Proofs.Ytmjhnmdmopmfjaa.Fn
