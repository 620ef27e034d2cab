/- Part of the proof of MergeTells: see the last text. (Words laid by the print, as far as they are named here; walks written by a program of this project; plain laws.) -/
import Derived.Test.YtalimpniimgheaaMergeTellsZ1
namespace Go.Proofs.Ytalimpniimgheaa.Fn
open Go.RowKit Go.Proofs.YtalimpniimgheaaW.PrintWords Go.Proofs.YtalimpniimgheaaW.PrintLast Go.Proofs.YtalimpniimgheaaW.PrintMore
attribute [local go_sem] max2_int min2_int max_two min_two max_three min_three max_four min_four
set_option linter.unusedVariables false
set_option linter.unusedSimpArgs false
mutual
def parcloseref40_Logs.l0 : Nat → List (List (S64)) → List Int → List (S117) → Option ((List (S117)))
 | 0, _, _, _ => none
 | k + 1, x0, x3, x4 => parcloseref40_Logs.l1 k x0 x3 x4 (-1) 0
def parcloseref40_Logs.l1 : Nat → List (List (S64)) → List Int → List (S117) → Int → Int → Option ((List (S117)))
 | 0, _, _, _, _, _ => none
 | k + 1, x0, x3, x4, x5, x6 => if x6 < (x0.length : Int) then (if 0 ≤ x6 then (if x6 < (x3.length : Int) then (if (rd x3 x6) < ((rd_L7 x0 x6).length : Int) then (if x5 < 0 then (parcloseref40_Logs.l1 k x0 x3 x4 x6 (wrap64 (x6 + 1))) else (if 0 ≤ (rd x3 x6) then (if 0 ≤ x5 then (if x5 < (x0.length : Int) then (if x5 < (x3.length : Int) then (if 0 ≤ (rd x3 x5) then (if (rd x3 x5) < ((rd_L7 x0 x5).length : Int) then (if ((rd_T64 (rd_L7 x0 x6) (rd x3 x6)).f0) < ((rd_T64 (rd_L7 x0 x5) (rd x3 x5)).f0) then (parcloseref40_Logs.l1 k x0 x3 x4 x6 (wrap64 (x6 + 1))) else (parcloseref40_Logs.l1 k x0 x3 x4 x5 (wrap64 (x6 + 1)))) else (none)) else (none)) else (none)) else (none)) else (none)) else (none))) else (parcloseref40_Logs.l1 k x0 x3 x4 x5 (wrap64 (x6 + 1)))) else (none)) else (none)) else (if x5 < 0 then (some x4) else (if 0 ≤ x5 then (if x5 < (x0.length : Int) then (if x5 < (x3.length : Int) then (if 0 ≤ (rd x3 x5) then (if (rd x3 x5) < ((rd_L7 x0 x5).length : Int) then (if x4.length < 3518437208883 then (parcloseref40_Logs.l0 k x0 (x3.set (x5 : Int).toNat (wrap64 ((rd x3 x5) + 1))) (x4 ++ [(⟨x5, (⟨(rd_T64 (rd_L7 x0 x5) (rd x3 x5)).f0, (rd_T64 (rd_L7 x0 x5) (rd x3 x5)).f1, (rd_T64 (rd_L7 x0 x5) (rd x3 x5)).f2, (rd_T64 (rd_L7 x0 x5) (rd x3 x5)).f3⟩ : S64)⟩ : S117)])) else (none)) else (none)) else (none)) else (none)) else (none)) else (none)))
end
def parcloseref40_Logs.f (k : Nat) (l0 : List (List (S64))) : Option ((List (S117))) := if 0 ≤ (mn (l0.length : Int) 64) then (if (mn (l0.length : Int) 64) ≤ (l0.length : Int) then ((some (l0.take ((mn (l0.length : Int) 64) : Int).toNat : List (List (S64)))).bind fun y268 => (if 0 ≤ (y268.length : Int) then (if ((y268.length : Int) : Int).toNat ≤ 35184372088832 then (parcloseref40_Logs.l0 k y268 (List.replicate ((y268.length : Int) : Int).toNat 0) ([] : List (S117))) else (none)) else (none))) else (none)) else (none)
def parcloseref40_Logs.T8 : Bool × List (List Nat × List Nat) := (true, [([], []), ([], []), ([0, 1], [0, 1]), ([2], [2]), ([], []), ([], []), ([4, 5], [4, 5]), ([6], [6]), ([7], [7]), ([3, 8], [3, 8]), ([9], [9]), ([10], [10]), ([11, 10], [10, 11]), ([12, 10, 10], [10, 12]), ([13], [13]), ([13], [13]), ([14, 15, 13], [13, 14, 15]), ([16, 13], [13, 16]), ([13], [13]), ([13], [13]), ([18, 19, 13], [13, 18, 19]), ([20, 13], [13, 20]), ([17, 21, 13], [13, 17, 21]), ([22, 13], [13, 22]), ([23, 13], [13, 23]), ([13], [13]), ([13], [13]), ([25, 26, 13], [13, 25, 26]), ([27, 13], [13, 27]), ([13], [13]), ([13], [13]), ([29, 30, 13], [13, 29, 30]), ([31, 13], [13, 31]), ([28, 32, 13], [13, 28, 32]), ([33, 13], [13, 33]), ([34, 13], [13, 34]), ([24, 35, 13], [13, 24, 35]), ([13, 36, 10], [10, 13, 36]), ([10, 37], [10, 37])])
def parcloseref40_Logs.B8 : List Nat := [0, 0, 3, 7, 0, 0, 48, 112, 240, 511, 1023, 2047, 4095, 8191, 16383, 16383, 65535, 131071, 16383, 16383, 802815, 1851391, 4194303, 8388607, 16777215, 16383, 16383, 100679679, 234897407, 16383, 16383, 1610629119, 3758112767, 8556396543, 17146331135, 34326200319, 68719476735, 137438953471, 274877906943]
theorem parcloseref40_Logs.tab8 : rtab .any (opsOf Try.f42 8) = parcloseref40_Logs.T8 := by kernel_rfl
theorem parcloseref40_Logs.bits8 : waitsOk parcloseref40_Logs.T8.2 parcloseref40_Logs.B8 = true := by kernel_rfl
def parcloseref40_Logs.T12 : Bool × List (List Nat × List Nat) := (true, [([], []), ([], []), ([], []), ([], []), ([2, 3], [2, 3]), ([4], [4]), ([], []), ([], []), ([6, 7], [6, 7]), ([8], [8]), ([5, 9], [5, 9]), ([10], [10]), ([1, 11], [1, 11]), ([12], [12]), ([0, 13], [0, 13]), ([14, 14, 0, 1, 2, 3, 4, 5, 6, 7, 8, 9, 10, 11, 12, 13, 14], [0, 14])])
def parcloseref40_Logs.B12 : List Nat := [0, 0, 0, 0, 12, 28, 0, 0, 192, 448, 1020, 2044, 4094, 8190, 16383, 32767]
theorem parcloseref40_Logs.tab12 : rtab .any (opsOf Try.f42 12) = parcloseref40_Logs.T12 := by kernel_rfl
theorem parcloseref40_Logs.bits12 : waitsOk parcloseref40_Logs.T12.2 parcloseref40_Logs.B12 = true := by kernel_rfl
set_option maxHeartbeats 8000000 in
set_option maxRecDepth 100000 in
theorem parcloseref40_Logs.calls (k : Nat) (A0 : Option Addr) (c0 : Nat) (l0 : List (List (S64))) (r : List (S117)) (w : World) (hr0 : Kd.C (Kd.slice 64 k64) w A0 l0.length l0) (hc0 : l0.length ≤ c0) (h : parcloseref40_Logs.f k l0 = some r) :
  Calls Try.prog 42 #[.slice A0 l0.length c0] w fun e w' => ∃ v0_ : Value, e = .returned (v0_) ∧ Kd.R k117 117 w' w.heap.size (fun _ => True) v0_ r ∧ Below w.heap.size w w' := by
 have hu64 := Try.underlying64
 have hu117 := Try.underlying117
 have HR0 := asd hr0
 have HC0 := asd hc0
 clear hr0 hc0
 have HB := asd (Below.refl w.heap.size w)
 have H : (if 0 ≤ (mn (l0.length : Int) 64) then (if (mn (l0.length : Int) 64) ≤ (l0.length : Int) then ((some (l0.take ((mn (l0.length : Int) 64) : Int).toNat : List (List (S64)))).bind fun y268 => (if 0 ≤ (y268.length : Int) then (if ((y268.length : Int) : Int).toNat ≤ 35184372088832 then (parcloseref40_Logs.l0 k y268 (List.replicate ((y268.length : Int) : Int).toNat 0) ([] : List (S117))) else (none)) else (none))) else (none)) else (none)) = some r := h
 clear h
 obtain ⟨ji2, hji2⟩ : ∃ j_ : Int, (mn (l0.length : Int) 64) = j_ := ⟨_, rfl⟩
 replace H : (if 0 ≤ (ji2) then (if (ji2) ≤ (l0.length : Int) then ((some (l0.take ((ji2) : Int).toNat : List (List (S64)))).bind fun y268 => (if 0 ≤ (y268.length : Int) then (if ((y268.length : Int) : Int).toNat ≤ 35184372088832 then (parcloseref40_Logs.l0 k y268 (List.replicate ((y268.length : Int) : Int).toNat 0) ([] : List (S117))) else (none)) else (none))) else (none)) else (none)) = some r := by first | (rw [hji2] at H; exact H) | (simp only [hji2] at H ⊢; exact H)
 (try (have hji2h : ji2 ≤ 64 := by (rw [← hji2]; unfold mn; (repeat' split) <;> omega)))
 (try (have hji2g : ji2 ≤ 64 := by omega))
 (try (have hji2l : 0 ≤ ji2 := by (rw [← hji2]; unfold mn; (repeat' split) <;> omega)))
 (try (have hji2m : 0 ≤ ji2 := by omega))
 have hji2_ : (if 64 < (l0.length : Int) then 64 else (l0.length : Int)) = ji2 := hji2
 by_cases c3 : 0 ≤ (ji2)
 ·rw [if_pos c3] at H
  have c3b0 := eq_true c3
  have c3b1 : decide (0 ≤ (ji2)) = true := decide_eq_true c3
  clear c3
  by_cases c4 : (ji2) ≤ (l0.length : Int)
  ·rw [if_pos c4] at H
   have c4b0 := eq_true c4
   have c4b1 : decide ((ji2) ≤ (l0.length : Int)) = true := decide_eq_true c4
   clear c4
   obtain ⟨y268, hy268⟩ : ∃ y_ : List (List (S64)), y_ = (l0.take ((ji2) : Int).toNat) := ⟨_, rfl⟩
   replace H : (if 0 ≤ (y268.length : Int) then (if ((y268.length : Int) : Int).toNat ≤ 35184372088832 then (parcloseref40_Logs.l0 k y268 (List.replicate ((y268.length : Int) : Int).toNat 0) ([] : List (S117))) else (none)) else (none)) = some r := by first | (rw [hy268]; with_reducible exact H) | (have H2_ := (Option.bind_some _ _).symm.trans H; rw [hy268]; with_reducible exact H2_) | (have H2_ := (Option.bind_some _ _).symm.trans H; with_reducible exact H2_) | with_reducible exact H | (rw [hy268]; exact H) | exact H
   have Ny268 := asd hy268
   clear hy268
   by_cases c5 : 0 ≤ (y268.length : Int)
   ·rw [if_pos c5] at H
    have c5b0 := eq_true c5
    have c5b1 : decide (0 ≤ (y268.length : Int)) = true := decide_eq_true c5
    clear c5
    by_cases c6 : ((y268.length : Int) : Int).toNat ≤ 35184372088832
    ·rw [if_pos c6] at H
     have c6b0 := eq_true c6
     have c6b1 : decide (((y268.length : Int) : Int).toNat ≤ 35184372088832) = true := decide_eq_true c6
     clear c6
     obtain ⟨y272, hy272⟩ : ∃ y_ : List Int, y_ = (List.replicate ((y268.length : Int) : Int).toNat 0) := ⟨_, rfl⟩
     replace H : (parcloseref40_Logs.l0 k y268 y272 ([] : List (S117))) = some r := by first | (rw [hy272]; with_reducible exact H) | (have H2_ := (Option.bind_some _ _).symm.trans H; rw [hy272]; with_reducible exact H2_) | (have H2_ := (Option.bind_some _ _).symm.trans H; with_reducible exact H2_) | with_reducible exact H | (rw [hy272]; exact H) | exact H
     have Ny272 := asd hy272
     clear hy272
     have H' := asd H
     clear H
     have q7 : ((ji2) : Int) ≤ ((l0.length : Int) : Int) := of_decide_eq_true (by assumption)
     obtain ⟨i07, hi07, _, hsz7, _⟩ := info_parts info29
     have hroom7 : l0.length ≤ c0 := HC0.out
     have hC7 : Kd.C (Kd.slice 64 k64) _ A0 l0.length l0 := HR0.out
     have hcut7 := cut_to (P := Try.prog) 22 29 .i64 Try.underlying22 hi07 A0 l0.length c0 (ji2) (of_decide_eq_true (by assumption)) q7 hroom7
     have hr7 := Kd.C_take (m := ((ji2) : Int).toNat) hC7 (by omega)
     have hy7 : y268.length = ((ji2) : Int).toNat := (by rw [Ny268.out, List.length_take]; omega)
     rw [← Ny268.out] at hr7
     rw [← hy7] at hcut7
     have HR271 := asd hr7
     have HC271 := asd (show y268.length ≤ c0 from by omega)
     clear hr7 hC7 hroom7 hi07 hsz7
     have KY7 := asd hy7
     clear hy7
     replace q7 := eq_true q7
     go_enter Try.func42, Try.ntmps42
     go_wp2_with (first | ((with_reducible refine gate_dst (N := 14) rfl ?_); refine Kd.R_make (Kd.int .i64) _ 3 rfl (N := 14) rfl 23 _ _ rfl (y268.length : Int) rfl rfl Try.underlying23 (.int .i64 0) 8 info3 rfl (by decide) (by omega) 0 (ok := fun _ => True) (okp := fun _ => True) rfl (fun _ hk => hk) trivial (of_decide_eq_true (by assumption)) (Nat.le_trans (Nat.mul_le_mul_right _ (of_decide_eq_true (by assumption) : (y268.length : Int).toNat ≤ 35184372088832)) (by omega)) (Below.refl _ _) (Nat.le_refl _) ?_; intro v273 w8 ho9 hb hg_ hnew_; clear hg_ hnew_; (first | rw [← Ny272.out] at ho9 | (simp only [Int.reduceToNat] at ho9; rw [← Ny272.out] at ho9)); have n0_ := asd (Kd.R_lower ho9 (below_size (by repeat (first | (with_reducible first | exact HB.out | apply wa | apply wn | apply wd) | exact HB.out)))); have n1_ := asd (below_step (by repeat (first | (with_reducible first | exact HB.out | apply wa | apply wn | apply wd) | exact HB.out)) hb); clear HB; have HO274 := n0_; have HB := n1_; clear n0_ n1_; clear hb ho9))
     go_loopg [4] k (fun kq v4 w' => ∃ (x3_1 : List Int) (x4_1 : List (S117)), Aside0 (parcloseref40_Logs.l0 kq y268 x3_1 x4_1 = some r) ∧ Aside0 (kq ≤ k) ∧ Aside0 (Kd.R (Kd.int .i64) 3 w' w.heap.size (fun _ => True) v273 x3_1) ∧ Aside0 (Kd.R k117 117 w' w.heap.size (fun _ => True) v4 x4_1) ∧ Aside0 (Below w.heap.size w w'))
     case atStart => exact ⟨(y272), (([] : List (S117))), H', ⟨Nat.le_refl _⟩, ⟨by (with_reducible repeat (first | apply Kd.R_alloc | apply Kd.R_drewN | apply Kd.R_drew)); exact HO274.out⟩, ⟨by first | exact Kd.R_nil _ _ _ _ _ | exact Kd.N_nil _ _ _ _ _ | exact Kd.V_nil _ _ _ _ _ | exact Kd.Q_nil _ _ _ _ _ | exact Kd.S_nil _ _ _ _ _⟩, ⟨by repeat (first | (with_reducible first | exact HB.out | apply wa | apply wn | apply wd) | exact HB.out)⟩⟩
     case round =>
      clear H'
      try clear p2
      try clear c3
      try clear c3b0
      try clear c3b1
      try clear c4
      try clear c4b0
      try clear c4b1
      try clear c5
      try clear c5b0
      try clear c5b1
      try clear c6
      try clear c6b0
      try clear c6b1
      try clear q7
      try clear q7
      obtain ⟨x3_1, x4_1, HA, HK1, HO_3, HO_4, HB⟩ := hrel
      cases gk with
      | zero => exact absurd HA.out (by simp [parcloseref40_Logs.l0])
      | succ k1 =>
       have H := HA.out
       clear HA
       simp only [parcloseref40_Logs.l0] at H
       have H' := asd H
       clear H
       go_wp2
       go_loopg [5, 6] k1 (fun kq v5 v6 w' => ∃ (x5_2 : Int) (x6_2 : Int), v5 = .int .i64 x5_2 ∧ v6 = .int .i64 x6_2 ∧ Aside0 (parcloseref40_Logs.l1 kq y268 x3_1 x4_1 x5_2 x6_2 = some r) ∧ Aside0 (kq ≤ k1) ∧ Aside0 (Kd.R (Kd.int .i64) 3 w' w.heap.size (fun _ => True) v273 x3_1) ∧ Aside0 (Kd.R k117 117 w' w.heap.size (fun _ => True) u4 x4_1) ∧ Aside0 (Below w.heap.size w w'))
       case atStart => exact ⟨((-1)), (0), (by first | rfl | (simp; done) | (simp [*]; done)), (by first | rfl | (simp; done) | (simp [*]; done)), H', ⟨Nat.le_refl _⟩, ⟨by (with_reducible repeat (first | apply Kd.R_alloc | apply Kd.R_drewN | apply Kd.R_drew)); exact HO_3.out⟩, ⟨by (with_reducible repeat (first | apply Kd.R_alloc | apply Kd.R_drewN | apply Kd.R_drew)); exact HO_4.out⟩, ⟨by repeat (first | (with_reducible first | exact HB.out | apply wa | apply wn | apply wd) | exact HB.out)⟩⟩
       case round =>
        clear H'
        try clear p2
        try clear c3
        try clear c3b0
        try clear c3b1
        try clear c4
        try clear c4b0
        try clear c4b1
        try clear c5
        try clear c5b0
        try clear c5b1
        try clear c6
        try clear c6b0
        try clear c6b1
        try clear q7
        try clear p2
        try clear q7
        obtain ⟨x5_2, x6_2, rfl, rfl, HA, HK2, HO_3, HO_4, HB⟩ := hrel
        cases gk with
        | zero => exact absurd HA.out (by simp [parcloseref40_Logs.l1])
        | succ k2 =>
         have H := HA.out
         clear HA
         simp only [parcloseref40_Logs.l1] at H
         by_cases c10 : x6_2 < (y268.length : Int)
         ·rw [if_pos c10] at H
          have c10b0 : decide (x6_2 < (y268.length : Int)) = true := decide_eq_true c10
          clear c10
          by_cases c11 : 0 ≤ x6_2
          ·rw [if_pos c11] at H
           have c11b0 : decide (0 ≤ x6_2) = true := decide_eq_true c11
           clear c11
           by_cases c12 : x6_2 < (x3_1.length : Int)
           ·rw [if_pos c12] at H
            have c12b0 : decide (x6_2 < (x3_1.length : Int)) = true := decide_eq_true c12
            clear c12
            by_cases c13 : (rd x3_1 x6_2) < ((rd_L7 y268 x6_2).length : Int)
            ·rw [if_pos c13] at H
             have c13b0 : decide ((rd x3_1 x6_2) < ((rd_L7 y268 x6_2).length : Int)) = true := decide_eq_true c13
             clear c13
             by_cases c14 : x5_2 < 0
             ·rw [if_pos c14] at H
              have c14b0 : decide (x5_2 < 0) = true := decide_eq_true c14
              clear c14
              have H' := asd H
              clear H
              try go_wp2
              have n0_ := asd (Kd.R_drew HO_3.out)
              have n1_ := asd (Kd.R_drew HO_4.out)
              have n2_ := asd (below_drew1 HB.out)
              clear HO_3
              clear HO_4
              clear HB
              have HO_3 := n0_
              have HO_4 := n1_
              have HB := n2_
              clear n0_ n1_ n2_
              obtain ⟨Ao16, co16, eo16⟩ := Kd.R_slice HO_3.out
              (first | subst eo16 | (injection eo16 with f1_ f2_ f3_; have f4_ := f1_.symm; have f5_ := f3_.symm; clear f1_ f2_ f3_; subst f4_; subst f5_))
              have p275 : 0 ≤ (x6_2 : Int) := of_decide_eq_true (by assumption)
              have q275 : x6_2 < (x3_1.length : Int) := of_decide_eq_true (by assumption)
              obtain ⟨ad275, e275, hx275_0⟩ := Kd.at_int (Kd.R_reads' HO_3.out).2.2 x6_2 p275 q275
              cases e275
              replace p275 := eq_true p275
              replace q275 := eq_true q275
              have p276 : 0 ≤ (x6_2 : Int) := of_decide_eq_true (by assumption)
              have q276 : x6_2 < (y268.length : Int) := of_decide_eq_true (by assumption)
              obtain ⟨ad276, A276_0, c276_0, e276, hx276_0, hl276_0, hi276_0⟩ := at_L7 HR271.out x6_2 p276 q276
              have hw276_0 := hx276_0
              cases e276
              replace hx276_0 := (HB.out.cell (World.block_lt_of_cell? w _ hx276_0)).trans hx276_0
              have HR276_0 := asd hi276_0
              have HC276_0 := asd hl276_0
              clear hi276_0 hl276_0
              replace p276 := eq_true p276
              replace q276 := eq_true q276
              refine start_ (n := 39) (S := fun w' => w'.cell? (ad275.add (x6_2).toNat) = some (.int .i64 (rd x3_1 x6_2)) ∧ w'.cell? (ad276.add (x6_2).toNat) = some (.slice A276_0 (rd_L7 y268 x6_2).length c276_0)) (ds := []) #[false, false, false, false, false, false, false, false, false, false, false, false, false, false, false, false, false, false, false, false, false, false, false, false, false, false, false, false, false, false, false, false, false, false, false, false, false, false, false] (by kernel_rfl) rfl rfl ⟨hx275_0, ((HB.out.cell (World.block_lt_of_cell? w _ hw276_0)).trans hw276_0)⟩ (fun hHeld => ?_); refine with_tabW parcloseref40_Logs.tab8 parcloseref40_Logs.bits8 (fun HT_ HW_ => ?_)
              generalize wr.drew = w15 at HO_3 HO_4 HB HR276_0 hx275_0 hx276_0 hHeld ⊢
              refine pure_ (i := 0) (N := some 21) (v := ?_) (a' := ?_) #[true, false, false, false, false, false, false, false, false, false, false, false, false, false, false, false, false, false, false, false, false, false, false, false, false, false, false, false, false, false, false, false, false, false, false, false, false, false, false] rfl rfl (any_of HT_.out (by kernel_rfl)) (fun _ _ _ h => h) (Or.inl ⟨by rfl, ?_⟩) ?_ ?_
              rotate_left
              ·intro w'
               go_simp
               with_reducible rfl
              rotate_left
              ·simp only [Act.put, sB, i64_w, i32_w]
               rfl
              refine pure_ (i := 1) (N := some 22) (v := ?_) (a' := ?_) #[true, true, false, false, false, false, false, false, false, false, false, false, false, false, false, false, false, false, false, false, false, false, false, false, false, false, false, false, false, false, false, false, false, false, false, false, false, false, false] rfl rfl (any_of HT_.out (by kernel_rfl)) (fun _ _ _ h => h) (Or.inl ⟨by rfl, ?_⟩) ?_ ?_
              rotate_left
              ·intro w'
               go_simp
               with_reducible rfl
              rotate_left
              ·simp only [Act.put, sB, i64_w, i32_w]
               rfl
              refine pure_ (i := 2) (N := some 23) (v := ?_) (a' := ?_) #[true, true, true, false, false, false, false, false, false, false, false, false, false, false, false, false, false, false, false, false, false, false, false, false, false, false, false, false, false, false, false, false, false, false, false, false, false, false, false] rfl rfl (any_of HT_.out (by kernel_rfl)) (fun _ _ _ h => h) (Or.inl ⟨by rfl, ?_⟩) ?_ ?_
              rotate_left
              ·intro w'
               go_simp
               with_reducible rfl
              rotate_left
              ·simp only [Act.put, sB, i64_w, i32_w]
               rfl
              refine pure_ (i := 4) (N := some 25) (v := ?_) (a' := ?_) #[true, true, true, false, true, false, false, false, false, false, false, false, false, false, false, false, false, false, false, false, false, false, false, false, false, false, false, false, false, false, false, false, false, false, false, false, false, false, false] rfl rfl (any_of HT_.out (by kernel_rfl)) (fun _ _ _ h => h) (Or.inl ⟨by rfl, ?_⟩) ?_ ?_
              rotate_left
              ·intro w'
               go_simp
               with_reducible rfl
              rotate_left
              ·simp only [Act.put, sB, i64_w, i32_w]
               rfl
              refine pure_ (i := 5) (N := some 26) (v := ?_) (a' := ?_) #[true, true, true, false, true, true, false, false, false, false, false, false, false, false, false, false, false, false, false, false, false, false, false, false, false, false, false, false, false, false, false, false, false, false, false, false, false, false, false] rfl rfl (any_of HT_.out (by kernel_rfl)) (fun _ _ _ h => h) (Or.inl ⟨by rfl, ?_⟩) ?_ ?_
              rotate_left
              ·intro w'
               go_simp
               with_reducible rfl
              rotate_left
              ·simp only [Act.put, sB, i64_w, i32_w]
               rfl
              refine pure_ (i := 6) (N := some 27) (v := ?_) (a' := ?_) #[true, true, true, false, true, true, true, false, false, false, false, false, false, false, false, false, false, false, false, false, false, false, false, false, false, false, false, false, false, false, false, false, false, false, false, false, false, false, false] rfl rfl (any_of HT_.out (by kernel_rfl)) (fun _ _ _ h => h) (Or.inl ⟨by rfl, ?_⟩) ?_ ?_
              rotate_left
              ·intro w'
               go_simp
               with_reducible rfl
              rotate_left
              ·simp only [Act.put, sB, i64_w, i32_w]
               rfl
              refine take_ (i := 3) (N := some 24) (v := ?_) (a' := ?_) #[true, true, true, true, true, true, true, false, false, false, false, false, false, false, false, false, false, false, false, false, false, false, false, false, false, false, false, false, false, false, false, false, false, false, false, false, false, false, false] rfl rfl (take_ofW HT_.out HW_.out (by kernel_rfl)) (fun _ _ _ h => h) (Or.inl ⟨by rfl, ?_⟩) hHeld ?_ ?_
              rotate_left
              ·rintro w' ⟨s0, s1⟩
               go_simp
               with_reducible rfl
              rotate_left
              ·simp only [Act.put, sB, i64_w, i32_w]
               rfl
              refine take_ (i := 7) (N := some 28) (v := ?_) (a' := ?_) #[true, true, true, true, true, true, true, true, false, false, false, false, false, false, false, false, false, false, false, false, false, false, false, false, false, false, false, false, false, false, false, false, false, false, false, false, false, false, false] rfl rfl (take_ofW HT_.out HW_.out (by kernel_rfl)) (fun _ _ _ h => h) (Or.inl ⟨by rfl, ?_⟩) hHeld ?_ ?_
              rotate_left
              ·rintro w' ⟨s0, s1⟩
               go_simp
               with_reducible rfl
              rotate_left
              ·simp only [Act.put, sB, i64_w, i32_w]
               rfl
              refine pure_ (i := 8) (N := some 29) (v := ?_) (a' := ?_) #[true, true, true, true, true, true, true, true, true, false, false, false, false, false, false, false, false, false, false, false, false, false, false, false, false, false, false, false, false, false, false, false, false, false, false, false, false, false, false] rfl rfl (any_of HT_.out (by kernel_rfl)) (fun _ _ _ h => h) (Or.inl ⟨by rfl, ?_⟩) ?_ ?_
              rotate_left
              ·intro w'
               go_simp
               with_reducible rfl
              rotate_left
              ·simp only [Act.put, sB, i64_w, i32_w]
               rfl
              refine pure_ (i := 9) (N := some 30) (v := ?_) (a' := ?_) #[true, true, true, true, true, true, true, true, true, true, false, false, false, false, false, false, false, false, false, false, false, false, false, false, false, false, false, false, false, false, false, false, false, false, false, false, false, false, false] rfl rfl (any_of HT_.out (by kernel_rfl)) (fun _ _ _ h => h) (Or.inl ⟨by rfl, ?_⟩) ?_ ?_
              rotate_left
              ·intro w'
               go_simp
               with_reducible rfl
              rotate_left
              ·simp only [Act.put, sB, i64_w, i32_w]
               rfl
              refine pure_ (i := 10) (N := some 31) (v := ?_) (a' := ?_) #[true, true, true, true, true, true, true, true, true, true, true, false, false, false, false, false, false, false, false, false, false, false, false, false, false, false, false, false, false, false, false, false, false, false, false, false, false, false, false] rfl rfl (any_of HT_.out (by kernel_rfl)) (fun _ _ _ h => h) (Or.inl ⟨by rfl, ?_⟩) ?_ ?_
              rotate_left
              ·intro w'
               go_simp
               with_reducible rfl
              rotate_left
              ·simp only [Act.put, sB, i64_w, i32_w]
               rfl
              refine pure_ (i := 11) (N := some 32) (v := ?_) (a' := ?_) #[true, true, true, true, true, true, true, true, true, true, true, true, false, false, false, false, false, false, false, false, false, false, false, false, false, false, false, false, false, false, false, false, false, false, false, false, false, false, false] rfl rfl (any_of HT_.out (by kernel_rfl)) (fun _ _ _ h => h) (Or.inl ⟨by rfl, ?_⟩) ?_ ?_
              rotate_left
              ·intro w'
               go_simp
               with_reducible rfl
              rotate_left
              ·simp only [Act.put, sB, i64_w, i32_w]
               rfl
              refine pure_ (i := 12) (N := some 33) (v := ?_) (a' := ?_) #[true, true, true, true, true, true, true, true, true, true, true, true, true, false, false, false, false, false, false, false, false, false, false, false, false, false, false, false, false, false, false, false, false, false, false, false, false, false, false] rfl rfl (any_of HT_.out (by kernel_rfl)) (fun _ _ _ h => h) (Or.inl ⟨by rfl, ?_⟩) ?_ ?_
              rotate_left
              ·intro w'
               go_simp
               with_reducible rfl
              rotate_left
              ·simp only [Act.put, sB, i64_w, i32_w]
               rfl
              refine pure_ (i := 13) (N := some 34) (v := ?_) (a' := ?_) #[true, true, true, true, true, true, true, true, true, true, true, true, true, true, false, false, false, false, false, false, false, false, false, false, false, false, false, false, false, false, false, false, false, false, false, false, false, false, false] rfl rfl (any_of HT_.out (by kernel_rfl)) (fun _ _ _ h => h) (Or.inl ⟨by rfl, ?_⟩) ?_ ?_
              rotate_left
              ·intro w'
               go_simp
               with_reducible rfl
              rotate_left
              ·simp only [Act.put, sB, i64_w, i32_w]
               rfl
              refine pure_ (i := 14) (N := some 35) (v := undef) (a' := ?_) #[true, true, true, true, true, true, true, true, true, true, true, true, true, true, true, false, false, false, false, false, false, false, false, false, false, false, false, false, false, false, false, false, false, false, false, false, false, false, false] rfl rfl (any_of HT_.out (by kernel_rfl)) (fun _ _ _ h => h) (Or.inr ⟨by rfl, rfl⟩) ?_ ?_
              rotate_left
              ·simp only [Act.put, sB, i64_w, i32_w]
               rfl
              refine pure_ (i := 15) (N := some 36) (v := undef) (a' := ?_) #[true, true, true, true, true, true, true, true, true, true, true, true, true, true, true, true, false, false, false, false, false, false, false, false, false, false, false, false, false, false, false, false, false, false, false, false, false, false, false] rfl rfl (any_of HT_.out (by kernel_rfl)) (fun _ _ _ h => h) (Or.inr ⟨by rfl, rfl⟩) ?_ ?_
              rotate_left
              ·simp only [Act.put, sB, i64_w, i32_w]
               rfl
              refine pure_ (i := 16) (N := some 37) (v := undef) (a' := ?_) #[true, true, true, true, true, true, true, true, true, true, true, true, true, true, true, true, true, false, false, false, false, false, false, false, false, false, false, false, false, false, false, false, false, false, false, false, false, false, false] rfl rfl (any_of HT_.out (by kernel_rfl)) (fun _ _ _ h => h) (Or.inr ⟨by rfl, rfl⟩) ?_ ?_
              rotate_left
              ·simp only [Act.put, sB, i64_w, i32_w]
               rfl
              refine pure_ (i := 17) (N := some 38) (v := undef) (a' := ?_) #[true, true, true, true, true, true, true, true, true, true, true, true, true, true, true, true, true, true, false, false, false, false, false, false, false, false, false, false, false, false, false, false, false, false, false, false, false, false, false] rfl rfl (any_of HT_.out (by kernel_rfl)) (fun _ _ _ h => h) (Or.inr ⟨by rfl, rfl⟩) ?_ ?_
              rotate_left
              ·simp only [Act.put, sB, i64_w, i32_w]
               rfl
              refine pure_ (i := 18) (N := some 39) (v := undef) (a' := ?_) #[true, true, true, true, true, true, true, true, true, true, true, true, true, true, true, true, true, true, true, false, false, false, false, false, false, false, false, false, false, false, false, false, false, false, false, false, false, false, false] rfl rfl (any_of HT_.out (by kernel_rfl)) (fun _ _ _ h => h) (Or.inr ⟨by rfl, rfl⟩) ?_ ?_
              rotate_left
              ·simp only [Act.put, sB, i64_w, i32_w]
               rfl
              refine pure_ (i := 19) (N := some 40) (v := undef) (a' := ?_) #[true, true, true, true, true, true, true, true, true, true, true, true, true, true, true, true, true, true, true, true, false, false, false, false, false, false, false, false, false, false, false, false, false, false, false, false, false, false, false] rfl rfl (any_of HT_.out (by kernel_rfl)) (fun _ _ _ h => h) (Or.inr ⟨by rfl, rfl⟩) ?_ ?_
              rotate_left
              ·simp only [Act.put, sB, i64_w, i32_w]
               rfl
              refine pure_ (i := 20) (N := some 41) (v := undef) (a' := ?_) #[true, true, true, true, true, true, true, true, true, true, true, true, true, true, true, true, true, true, true, true, true, false, false, false, false, false, false, false, false, false, false, false, false, false, false, false, false, false, false] rfl rfl (any_of HT_.out (by kernel_rfl)) (fun _ _ _ h => h) (Or.inr ⟨by rfl, rfl⟩) ?_ ?_
              rotate_left
              ·simp only [Act.put, sB, i64_w, i32_w]
               rfl
              refine pure_ (i := 21) (N := some 42) (v := undef) (a' := ?_) #[true, true, true, true, true, true, true, true, true, true, true, true, true, true, true, true, true, true, true, true, true, true, false, false, false, false, false, false, false, false, false, false, false, false, false, false, false, false, false] rfl rfl (any_of HT_.out (by kernel_rfl)) (fun _ _ _ h => h) (Or.inr ⟨by rfl, rfl⟩) ?_ ?_
              rotate_left
              ·simp only [Act.put, sB, i64_w, i32_w]
               rfl
              refine pure_ (i := 22) (N := some 43) (v := undef) (a' := ?_) #[true, true, true, true, true, true, true, true, true, true, true, true, true, true, true, true, true, true, true, true, true, true, true, false, false, false, false, false, false, false, false, false, false, false, false, false, false, false, false] rfl rfl (any_of HT_.out (by kernel_rfl)) (fun _ _ _ h => h) (Or.inr ⟨by rfl, rfl⟩) ?_ ?_
              rotate_left
              ·simp only [Act.put, sB, i64_w, i32_w]
               rfl
              refine pure_ (i := 23) (N := some 44) (v := undef) (a' := ?_) #[true, true, true, true, true, true, true, true, true, true, true, true, true, true, true, true, true, true, true, true, true, true, true, true, false, false, false, false, false, false, false, false, false, false, false, false, false, false, false] rfl rfl (any_of HT_.out (by kernel_rfl)) (fun _ _ _ h => h) (Or.inr ⟨by rfl, rfl⟩) ?_ ?_
              rotate_left
              ·simp only [Act.put, sB, i64_w, i32_w]
               rfl
              refine pure_ (i := 24) (N := some 45) (v := undef) (a' := ?_) #[true, true, true, true, true, true, true, true, true, true, true, true, true, true, true, true, true, true, true, true, true, true, true, true, true, false, false, false, false, false, false, false, false, false, false, false, false, false, false] rfl rfl (any_of HT_.out (by kernel_rfl)) (fun _ _ _ h => h) (Or.inr ⟨by rfl, rfl⟩) ?_ ?_
              rotate_left
              ·simp only [Act.put, sB, i64_w, i32_w]
               rfl
              refine pure_ (i := 25) (N := some 46) (v := undef) (a' := ?_) #[true, true, true, true, true, true, true, true, true, true, true, true, true, true, true, true, true, true, true, true, true, true, true, true, true, true, false, false, false, false, false, false, false, false, false, false, false, false, false] rfl rfl (any_of HT_.out (by kernel_rfl)) (fun _ _ _ h => h) (Or.inr ⟨by rfl, rfl⟩) ?_ ?_
              rotate_left
              ·simp only [Act.put, sB, i64_w, i32_w]
               rfl
              refine pure_ (i := 26) (N := some 47) (v := undef) (a' := ?_) #[true, true, true, true, true, true, true, true, true, true, true, true, true, true, true, true, true, true, true, true, true, true, true, true, true, true, true, false, false, false, false, false, false, false, false, false, false, false, false] rfl rfl (any_of HT_.out (by kernel_rfl)) (fun _ _ _ h => h) (Or.inr ⟨by rfl, rfl⟩) ?_ ?_
              rotate_left
              ·simp only [Act.put, sB, i64_w, i32_w]
               rfl
              refine pure_ (i := 27) (N := some 48) (v := undef) (a' := ?_) #[true, true, true, true, true, true, true, true, true, true, true, true, true, true, true, true, true, true, true, true, true, true, true, true, true, true, true, true, false, false, false, false, false, false, false, false, false, false, false] rfl rfl (any_of HT_.out (by kernel_rfl)) (fun _ _ _ h => h) (Or.inr ⟨by rfl, rfl⟩) ?_ ?_
              rotate_left
              ·simp only [Act.put, sB, i64_w, i32_w]
               rfl
              refine pure_ (i := 28) (N := some 49) (v := undef) (a' := ?_) #[true, true, true, true, true, true, true, true, true, true, true, true, true, true, true, true, true, true, true, true, true, true, true, true, true, true, true, true, true, false, false, false, false, false, false, false, false, false, false] rfl rfl (any_of HT_.out (by kernel_rfl)) (fun _ _ _ h => h) (Or.inr ⟨by rfl, rfl⟩) ?_ ?_
              rotate_left
              ·simp only [Act.put, sB, i64_w, i32_w]
               rfl
              refine pure_ (i := 29) (N := some 50) (v := undef) (a' := ?_) #[true, true, true, true, true, true, true, true, true, true, true, true, true, true, true, true, true, true, true, true, true, true, true, true, true, true, true, true, true, true, false, false, false, false, false, false, false, false, false] rfl rfl (any_of HT_.out (by kernel_rfl)) (fun _ _ _ h => h) (Or.inr ⟨by rfl, rfl⟩) ?_ ?_
              rotate_left
              ·simp only [Act.put, sB, i64_w, i32_w]
               rfl
              refine pure_ (i := 30) (N := some 51) (v := undef) (a' := ?_) #[true, true, true, true, true, true, true, true, true, true, true, true, true, true, true, true, true, true, true, true, true, true, true, true, true, true, true, true, true, true, true, false, false, false, false, false, false, false, false] rfl rfl (any_of HT_.out (by kernel_rfl)) (fun _ _ _ h => h) (Or.inr ⟨by rfl, rfl⟩) ?_ ?_
              rotate_left
              ·simp only [Act.put, sB, i64_w, i32_w]
               rfl
              refine pure_ (i := 31) (N := some 52) (v := undef) (a' := ?_) #[true, true, true, true, true, true, true, true, true, true, true, true, true, true, true, true, true, true, true, true, true, true, true, true, true, true, true, true, true, true, true, true, false, false, false, false, false, false, false] rfl rfl (any_of HT_.out (by kernel_rfl)) (fun _ _ _ h => h) (Or.inr ⟨by rfl, rfl⟩) ?_ ?_
              rotate_left
              ·simp only [Act.put, sB, i64_w, i32_w]
               rfl
              refine pure_ (i := 32) (N := some 53) (v := undef) (a' := ?_) #[true, true, true, true, true, true, true, true, true, true, true, true, true, true, true, true, true, true, true, true, true, true, true, true, true, true, true, true, true, true, true, true, true, false, false, false, false, false, false] rfl rfl (any_of HT_.out (by kernel_rfl)) (fun _ _ _ h => h) (Or.inr ⟨by rfl, rfl⟩) ?_ ?_
              rotate_left
              ·simp only [Act.put, sB, i64_w, i32_w]
               rfl
              refine pure_ (i := 33) (N := some 54) (v := undef) (a' := ?_) #[true, true, true, true, true, true, true, true, true, true, true, true, true, true, true, true, true, true, true, true, true, true, true, true, true, true, true, true, true, true, true, true, true, true, false, false, false, false, false] rfl rfl (any_of HT_.out (by kernel_rfl)) (fun _ _ _ h => h) (Or.inr ⟨by rfl, rfl⟩) ?_ ?_
              rotate_left
              ·simp only [Act.put, sB, i64_w, i32_w]
               rfl
              refine pure_ (i := 34) (N := some 55) (v := undef) (a' := ?_) #[true, true, true, true, true, true, true, true, true, true, true, true, true, true, true, true, true, true, true, true, true, true, true, true, true, true, true, true, true, true, true, true, true, true, true, false, false, false, false] rfl rfl (any_of HT_.out (by kernel_rfl)) (fun _ _ _ h => h) (Or.inr ⟨by rfl, rfl⟩) ?_ ?_
              rotate_left
              ·simp only [Act.put, sB, i64_w, i32_w]
               rfl
              refine pure_ (i := 35) (N := some 56) (v := undef) (a' := ?_) #[true, true, true, true, true, true, true, true, true, true, true, true, true, true, true, true, true, true, true, true, true, true, true, true, true, true, true, true, true, true, true, true, true, true, true, true, false, false, false] rfl rfl (any_of HT_.out (by kernel_rfl)) (fun _ _ _ h => h) (Or.inr ⟨by rfl, rfl⟩) ?_ ?_
              rotate_left
              ·simp only [Act.put, sB, i64_w, i32_w]
               rfl
              refine pure_ (i := 36) (N := some 57) (v := undef) (a' := ?_) #[true, true, true, true, true, true, true, true, true, true, true, true, true, true, true, true, true, true, true, true, true, true, true, true, true, true, true, true, true, true, true, true, true, true, true, true, true, false, false] rfl rfl (any_of HT_.out (by kernel_rfl)) (fun _ _ _ h => h) (Or.inr ⟨by rfl, rfl⟩) ?_ ?_
              rotate_left
              ·simp only [Act.put, sB, i64_w, i32_w]
               rfl
              refine pure_ (i := 37) (N := some 58) (v := ?_) (a' := ?_) #[true, true, true, true, true, true, true, true, true, true, true, true, true, true, true, true, true, true, true, true, true, true, true, true, true, true, true, true, true, true, true, true, true, true, true, true, true, true, false] rfl rfl (any_of HT_.out (by kernel_rfl)) (fun _ _ _ h => h) (Or.inl ⟨by rfl, ?_⟩) ?_ ?_
              rotate_left
              ·intro w'
               go_simp
               with_reducible rfl
              rotate_left
              ·simp only [Act.put, sB, i64_w, i32_w]
               rfl
              refine pure_ (i := 38) (N := some 59) (v := ?_) (a' := ?_) #[true, true, true, true, true, true, true, true, true, true, true, true, true, true, true, true, true, true, true, true, true, true, true, true, true, true, true, true, true, true, true, true, true, true, true, true, true, true, true] rfl rfl (any_of HT_.out (by kernel_rfl)) (fun _ _ _ h => h) (Or.inl ⟨by rfl, ?_⟩) ?_ ?_
              rotate_left
              ·intro w'
               go_simp
               with_reducible rfl
              rotate_left
              ·simp only [Act.put, sB, i64_w, i32_w]
               rfl
              refine done_ (done_of HT_.out (by kernel_rfl)) ?_
              try go_wp2
              go_roundg k2
              case measure => have := HK1.out; have := HK2.out; omega
              case rel => exact ⟨(x6_2), (wrap64 (x6_2 + 1)), (by first | rfl | (simp; done) | (simp [*]; done)), (by first | rfl | (simp; done) | (simp [*]; done)), H', ⟨by have := HK1.out; have := HK2.out; omega⟩, ⟨by (with_reducible repeat (first | apply Kd.R_alloc | apply Kd.R_drewN | apply Kd.R_drew)); exact HO_3.out⟩, ⟨by (with_reducible repeat (first | apply Kd.R_alloc | apply Kd.R_drewN | apply Kd.R_drew)); exact HO_4.out⟩, ⟨by repeat (first | (with_reducible first | exact HB.out | apply wa | apply wn | apply wd) | exact HB.out)⟩⟩
             ·rw [if_neg c14] at H
              have c14b0 : decide (x5_2 < 0) = false := decide_eq_false c14
              clear c14
              by_cases c17 : 0 ≤ (rd x3_1 x6_2)
              ·rw [if_pos c17] at H
               have c17b0 : decide (0 ≤ (rd x3_1 x6_2)) = true := decide_eq_true c17
               clear c17
               by_cases c18 : 0 ≤ x5_2
               ·rw [if_pos c18] at H
                have c18b0 : decide (0 ≤ x5_2) = true := decide_eq_true c18
                clear c18
                by_cases c19 : x5_2 < (y268.length : Int)
                ·rw [if_pos c19] at H
                 have c19b0 : decide (x5_2 < (y268.length : Int)) = true := decide_eq_true c19
                 clear c19
                 by_cases c20 : x5_2 < (x3_1.length : Int)
                 ·rw [if_pos c20] at H
                  have c20b0 : decide (x5_2 < (x3_1.length : Int)) = true := decide_eq_true c20
                  clear c20
                  by_cases c21 : 0 ≤ (rd x3_1 x5_2)
                  ·rw [if_pos c21] at H
                   have c21b0 : decide (0 ≤ (rd x3_1 x5_2)) = true := decide_eq_true c21
                   clear c21
                   by_cases c22 : (rd x3_1 x5_2) < ((rd_L7 y268 x5_2).length : Int)
                   ·rw [if_pos c22] at H
                    have c22b0 : decide ((rd x3_1 x5_2) < ((rd_L7 y268 x5_2).length : Int)) = true := decide_eq_true c22
                    clear c22
                    by_cases c23 : ((rd_T64 (rd_L7 y268 x6_2) (rd x3_1 x6_2)).f0) < ((rd_T64 (rd_L7 y268 x5_2) (rd x3_1 x5_2)).f0)
                    ·rw [if_pos c23] at H
                     have c23b0 : decide (((rd_T64 (rd_L7 y268 x6_2) (rd x3_1 x6_2)).f0) < ((rd_T64 (rd_L7 y268 x5_2) (rd x3_1 x5_2)).f0)) = true := decide_eq_true c23
                     clear c23
                     have H' := asd H
                     clear H
                     try go_wp2
                     have n0_ := asd (Kd.R_drew HO_3.out)
                     have n1_ := asd (Kd.R_drew HO_4.out)
                     have n2_ := asd (below_drew1 HB.out)
                     clear HO_3
                     clear HO_4
                     clear HB
                     have HO_3 := n0_
                     have HO_4 := n1_
                     have HB := n2_
                     clear n0_ n1_ n2_
                     obtain ⟨Ao25, co25, eo25⟩ := Kd.R_slice HO_3.out
                     (first | subst eo25 | (injection eo25 with f1_ f2_ f3_; have f4_ := f1_.symm; have f5_ := f3_.symm; clear f1_ f2_ f3_; subst f4_; subst f5_))
                     have p275 : 0 ≤ (x6_2 : Int) := of_decide_eq_true (by assumption)
                     have q275 : x6_2 < (x3_1.length : Int) := of_decide_eq_true (by assumption)
                     obtain ⟨ad275, e275, hx275_0⟩ := Kd.at_int (Kd.R_reads' HO_3.out).2.2 x6_2 p275 q275
                     cases e275
                     replace p275 := eq_true p275
                     replace q275 := eq_true q275
                     have p276 : 0 ≤ (x6_2 : Int) := of_decide_eq_true (by assumption)
                     have q276 : x6_2 < (y268.length : Int) := of_decide_eq_true (by assumption)
                     obtain ⟨ad276, A276_0, c276_0, e276, hx276_0, hl276_0, hi276_0⟩ := at_L7 HR271.out x6_2 p276 q276
                     have hw276_0 := hx276_0
                     cases e276
                     replace hx276_0 := (HB.out.cell (World.block_lt_of_cell? w _ hx276_0)).trans hx276_0
                     have HR276_0 := asd hi276_0
                     have HC276_0 := asd hl276_0
                     clear hi276_0 hl276_0
                     replace p276 := eq_true p276
                     replace q276 := eq_true q276
                     have p277 : 0 ≤ (x6_2 : Int) := of_decide_eq_true (by assumption)
                     have q277 : x6_2 < (y268.length : Int) := of_decide_eq_true (by assumption)
                     obtain ⟨ad277, A277_0, c277_0, e277, hx277_0, hl277_0, hi277_0⟩ := at_L7 HR271.out x6_2 p277 q277
                     have hw277_0 := hx277_0
                     obtain rfl : ad276 = ad277 := (by injection e277)
                     replace hx277_0 := (HB.out.cell (World.block_lt_of_cell? w _ hx277_0)).trans hx277_0
                     have HR277_0 := asd hi277_0
                     have HC277_0 := asd hl277_0
                     clear hi277_0 hl277_0
                     replace p277 := eq_true p277
                     replace q277 := eq_true q277
                     have ea_ := Option.some.inj (hx276_0.symm.trans hx277_0)
                     injection ea_ with ea_ en_ ec_
                     subst ea_
                     subst ec_
                     clear en_
                     have p278 : 0 ≤ (x6_2 : Int) := of_decide_eq_true (by assumption)
                     have q278 : x6_2 < (x3_1.length : Int) := of_decide_eq_true (by assumption)
                     obtain ⟨ad278, e278, hx278_0⟩ := Kd.at_int (Kd.R_reads' HO_3.out).2.2 x6_2 p278 q278
                     obtain rfl : ad275 = ad278 := (by injection e278)
                     replace p278 := eq_true p278
                     replace q278 := eq_true q278
                     have p279 : 0 ≤ ((rd x3_1 x6_2) : Int) := of_decide_eq_true (by assumption)
                     have q279 : (rd x3_1 x6_2) < ((rd_L7 y268 x6_2).length : Int) := of_decide_eq_true (by assumption)
                     obtain ⟨ad279, e279, hx279_0, hx279_1, hx279_2, hx279_3⟩ := at_T64 HR277_0.out (rd x3_1 x6_2) p279 q279
                     have hw279_3 := hx279_3
                     have hw279_2 := hx279_2
                     have hw279_1 := hx279_1
                     have hw279_0 := hx279_0
                     cases e279
                     replace hx279_0 := (HB.out.cell (World.block_lt_of_cell? w _ hx279_0)).trans hx279_0
                     replace hx279_1 := (HB.out.cell (World.block_lt_of_cell? w _ hx279_1)).trans hx279_1
                     replace hx279_2 := (HB.out.cell (World.block_lt_of_cell? w _ hx279_2)).trans hx279_2
                     replace hx279_3 := (HB.out.cell (World.block_lt_of_cell? w _ hx279_3)).trans hx279_3
                     replace p279 := eq_true p279
                     replace q279 := eq_true q279
                     have p280 : 0 ≤ (x5_2 : Int) := of_decide_eq_true (by assumption)
                     have q280 : x5_2 < (y268.length : Int) := of_decide_eq_true (by assumption)
                     obtain ⟨ad280, A280_0, c280_0, e280, hx280_0, hl280_0, hi280_0⟩ := at_L7 HR271.out x5_2 p280 q280
                     have hw280_0 := hx280_0
                     obtain rfl : ad276 = ad280 := (by injection e280)
                     replace hx280_0 := (HB.out.cell (World.block_lt_of_cell? w _ hx280_0)).trans hx280_0
                     have HR280_0 := asd hi280_0
                     have HC280_0 := asd hl280_0
                     clear hi280_0 hl280_0
                     replace p280 := eq_true p280
                     replace q280 := eq_true q280
                     have p281 : 0 ≤ (x5_2 : Int) := of_decide_eq_true (by assumption)
                     have q281 : x5_2 < (x3_1.length : Int) := of_decide_eq_true (by assumption)
                     obtain ⟨ad281, e281, hx281_0⟩ := Kd.at_int (Kd.R_reads' HO_3.out).2.2 x5_2 p281 q281
                     obtain rfl : ad275 = ad281 := (by injection e281)
                     replace p281 := eq_true p281
                     replace q281 := eq_true q281
                     have p282 : 0 ≤ ((rd x3_1 x5_2) : Int) := of_decide_eq_true (by assumption)
                     have q282 : (rd x3_1 x5_2) < ((rd_L7 y268 x5_2).length : Int) := of_decide_eq_true (by assumption)
                     obtain ⟨ad282, e282, hx282_0, hx282_1, hx282_2, hx282_3⟩ := at_T64 HR280_0.out (rd x3_1 x5_2) p282 q282
                     have hw282_3 := hx282_3
                     have hw282_2 := hx282_2
                     have hw282_1 := hx282_1
                     have hw282_0 := hx282_0
                     cases e282
                     replace hx282_0 := (HB.out.cell (World.block_lt_of_cell? w _ hx282_0)).trans hx282_0
                     replace hx282_1 := (HB.out.cell (World.block_lt_of_cell? w _ hx282_1)).trans hx282_1
                     replace hx282_2 := (HB.out.cell (World.block_lt_of_cell? w _ hx282_2)).trans hx282_2
                     replace hx282_3 := (HB.out.cell (World.block_lt_of_cell? w _ hx282_3)).trans hx282_3
                     replace p282 := eq_true p282
                     replace q282 := eq_true q282
                     refine start_ (n := 39) (S := fun w' => w'.cell? (ad275.add (x6_2).toNat) = some (.int .i64 (rd x3_1 x6_2)) ∧ w'.cell? (ad276.add (x6_2).toNat) = some (.slice (some ad279) (rd_L7 y268 x6_2).length c276_0) ∧ w'.cell? (ad276.add (x6_2).toNat) = some (.slice (some ad279) (rd_L7 y268 x6_2).length c276_0) ∧ w'.cell? (ad275.add (x6_2).toNat) = some (.int .i64 (rd x3_1 x6_2)) ∧ w'.cell? (ad279.add (((rd x3_1 x6_2)).toNat * 4)) = some (.int .i64 ((rd_T64 (rd_L7 y268 x6_2) (rd x3_1 x6_2)).f0)) ∧ w'.cell? ⟨(ad279.add (((rd x3_1 x6_2)).toNat * 4)).block, (ad279.add (((rd x3_1 x6_2)).toNat * 4)).off + 1, none⟩ = some (.int .i64 ((rd_T64 (rd_L7 y268 x6_2) (rd x3_1 x6_2)).f1)) ∧ w'.cell? ⟨(ad279.add (((rd x3_1 x6_2)).toNat * 4)).block, (ad279.add (((rd x3_1 x6_2)).toNat * 4)).off + 2, none⟩ = some (.int .i64 ((rd_T64 (rd_L7 y268 x6_2) (rd x3_1 x6_2)).f2)) ∧ w'.cell? ⟨(ad279.add (((rd x3_1 x6_2)).toNat * 4)).block, (ad279.add (((rd x3_1 x6_2)).toNat * 4)).off + 3, none⟩ = some (.int .i64 ((rd_T64 (rd_L7 y268 x6_2) (rd x3_1 x6_2)).f3)) ∧ w'.cell? (ad276.add (x5_2).toNat) = some (.slice (some ad282) (rd_L7 y268 x5_2).length c280_0) ∧ w'.cell? (ad275.add (x5_2).toNat) = some (.int .i64 (rd x3_1 x5_2)) ∧ w'.cell? (ad282.add (((rd x3_1 x5_2)).toNat * 4)) = some (.int .i64 ((rd_T64 (rd_L7 y268 x5_2) (rd x3_1 x5_2)).f0)) ∧ w'.cell? ⟨(ad282.add (((rd x3_1 x5_2)).toNat * 4)).block, (ad282.add (((rd x3_1 x5_2)).toNat * 4)).off + 1, none⟩ = some (.int .i64 ((rd_T64 (rd_L7 y268 x5_2) (rd x3_1 x5_2)).f1)) ∧ w'.cell? ⟨(ad282.add (((rd x3_1 x5_2)).toNat * 4)).block, (ad282.add (((rd x3_1 x5_2)).toNat * 4)).off + 2, none⟩ = some (.int .i64 ((rd_T64 (rd_L7 y268 x5_2) (rd x3_1 x5_2)).f2)) ∧ w'.cell? ⟨(ad282.add (((rd x3_1 x5_2)).toNat * 4)).block, (ad282.add (((rd x3_1 x5_2)).toNat * 4)).off + 3, none⟩ = some (.int .i64 ((rd_T64 (rd_L7 y268 x5_2) (rd x3_1 x5_2)).f3))) (ds := []) #[false, false, false, false, false, false, false, false, false, false, false, false, false, false, false, false, false, false, false, false, false, false, false, false, false, false, false, false, false, false, false, false, false, false, false, false, false, false, false] (by kernel_rfl) rfl rfl ⟨hx275_0, ((HB.out.cell (World.block_lt_of_cell? w _ hw276_0)).trans hw276_0), ((HB.out.cell (World.block_lt_of_cell? w _ hw277_0)).trans hw277_0), hx278_0, ((HB.out.cell (World.block_lt_of_cell? w _ hw279_0)).trans hw279_0), ((HB.out.cell (World.block_lt_of_cell? w _ hw279_1)).trans hw279_1), ((HB.out.cell (World.block_lt_of_cell? w _ hw279_2)).trans hw279_2), ((HB.out.cell (World.block_lt_of_cell? w _ hw279_3)).trans hw279_3), ((HB.out.cell (World.block_lt_of_cell? w _ hw280_0)).trans hw280_0), hx281_0, ((HB.out.cell (World.block_lt_of_cell? w _ hw282_0)).trans hw282_0), ((HB.out.cell (World.block_lt_of_cell? w _ hw282_1)).trans hw282_1), ((HB.out.cell (World.block_lt_of_cell? w _ hw282_2)).trans hw282_2), ((HB.out.cell (World.block_lt_of_cell? w _ hw282_3)).trans hw282_3)⟩ (fun hHeld => ?_); refine with_tabW parcloseref40_Logs.tab8 parcloseref40_Logs.bits8 (fun HT_ HW_ => ?_)
                     generalize wr.drew = w24 at HO_3 HO_4 HB HR276_0 HR277_0 HR280_0 hx275_0 hx276_0 hx277_0 hx278_0 hx279_0 hx279_1 hx279_2 hx279_3 hx280_0 hx281_0 hx282_0 hx282_1 hx282_2 hx282_3 hHeld ⊢
                     refine pure_ (i := 0) (N := some 21) (v := ?_) (a' := ?_) #[true, false, false, false, false, false, false, false, false, false, false, false, false, false, false, false, false, false, false, false, false, false, false, false, false, false, false, false, false, false, false, false, false, false, false, false, false, false, false] rfl rfl (any_of HT_.out (by kernel_rfl)) (fun _ _ _ h => h) (Or.inl ⟨by rfl, ?_⟩) ?_ ?_
                     rotate_left
                     ·intro w'
                      go_simp
                      with_reducible rfl
                     rotate_left
                     ·simp only [Act.put, sB, i64_w, i32_w]
                      rfl
                     refine pure_ (i := 1) (N := some 22) (v := ?_) (a' := ?_) #[true, true, false, false, false, false, false, false, false, false, false, false, false, false, false, false, false, false, false, false, false, false, false, false, false, false, false, false, false, false, false, false, false, false, false, false, false, false, false] rfl rfl (any_of HT_.out (by kernel_rfl)) (fun _ _ _ h => h) (Or.inl ⟨by rfl, ?_⟩) ?_ ?_
                     rotate_left
                     ·intro w'
                      go_simp
                      with_reducible rfl
                     rotate_left
                     ·simp only [Act.put, sB, i64_w, i32_w]
                      rfl
                     refine pure_ (i := 2) (N := some 23) (v := ?_) (a' := ?_) #[true, true, true, false, false, false, false, false, false, false, false, false, false, false, false, false, false, false, false, false, false, false, false, false, false, false, false, false, false, false, false, false, false, false, false, false, false, false, false] rfl rfl (any_of HT_.out (by kernel_rfl)) (fun _ _ _ h => h) (Or.inl ⟨by rfl, ?_⟩) ?_ ?_
                     rotate_left
                     ·intro w'
                      go_simp
                      with_reducible rfl
                     rotate_left
                     ·simp only [Act.put, sB, i64_w, i32_w]
                      rfl
                     refine pure_ (i := 4) (N := some 25) (v := ?_) (a' := ?_) #[true, true, true, false, true, false, false, false, false, false, false, false, false, false, false, false, false, false, false, false, false, false, false, false, false, false, false, false, false, false, false, false, false, false, false, false, false, false, false] rfl rfl (any_of HT_.out (by kernel_rfl)) (fun _ _ _ h => h) (Or.inl ⟨by rfl, ?_⟩) ?_ ?_
                     rotate_left
                     ·intro w'
                      go_simp
                      with_reducible rfl
                     rotate_left
                     ·simp only [Act.put, sB, i64_w, i32_w]
                      rfl
                     refine pure_ (i := 5) (N := some 26) (v := ?_) (a' := ?_) #[true, true, true, false, true, true, false, false, false, false, false, false, false, false, false, false, false, false, false, false, false, false, false, false, false, false, false, false, false, false, false, false, false, false, false, false, false, false, false] rfl rfl (any_of HT_.out (by kernel_rfl)) (fun _ _ _ h => h) (Or.inl ⟨by rfl, ?_⟩) ?_ ?_
                     rotate_left
                     ·intro w'
                      go_simp
                      with_reducible rfl
                     rotate_left
                     ·simp only [Act.put, sB, i64_w, i32_w]
                      rfl
                     refine pure_ (i := 6) (N := some 27) (v := ?_) (a' := ?_) #[true, true, true, false, true, true, true, false, false, false, false, false, false, false, false, false, false, false, false, false, false, false, false, false, false, false, false, false, false, false, false, false, false, false, false, false, false, false, false] rfl rfl (any_of HT_.out (by kernel_rfl)) (fun _ _ _ h => h) (Or.inl ⟨by rfl, ?_⟩) ?_ ?_
                     rotate_left
                     ·intro w'
                      go_simp
                      with_reducible rfl
                     rotate_left
                     ·simp only [Act.put, sB, i64_w, i32_w]
                      rfl
                     refine take_ (i := 3) (N := some 24) (v := ?_) (a' := ?_) #[true, true, true, true, true, true, true, false, false, false, false, false, false, false, false, false, false, false, false, false, false, false, false, false, false, false, false, false, false, false, false, false, false, false, false, false, false, false, false] rfl rfl (take_ofW HT_.out HW_.out (by kernel_rfl)) (fun _ _ _ h => h) (Or.inl ⟨by rfl, ?_⟩) hHeld ?_ ?_
                     rotate_left
                     ·rintro w' ⟨s0, s1, s2, s3, s4, s5, s6, s7, s8, s9, s10, s11, s12, s13⟩
                      go_simp
                      with_reducible rfl
                     rotate_left
                     ·simp only [Act.put, sB, i64_w, i32_w]
                      rfl
                     refine take_ (i := 7) (N := some 28) (v := ?_) (a' := ?_) #[true, true, true, true, true, true, true, true, false, false, false, false, false, false, false, false, false, false, false, false, false, false, false, false, false, false, false, false, false, false, false, false, false, false, false, false, false, false, false] rfl rfl (take_ofW HT_.out HW_.out (by kernel_rfl)) (fun _ _ _ h => h) (Or.inl ⟨by rfl, ?_⟩) hHeld ?_ ?_
                     rotate_left
                     ·rintro w' ⟨s0, s1, s2, s3, s4, s5, s6, s7, s8, s9, s10, s11, s12, s13⟩
                      go_simp
                      with_reducible rfl
                     rotate_left
                     ·simp only [Act.put, sB, i64_w, i32_w]
                      rfl
                     refine pure_ (i := 8) (N := some 29) (v := ?_) (a' := ?_) #[true, true, true, true, true, true, true, true, true, false, false, false, false, false, false, false, false, false, false, false, false, false, false, false, false, false, false, false, false, false, false, false, false, false, false, false, false, false, false] rfl rfl (any_of HT_.out (by kernel_rfl)) (fun _ _ _ h => h) (Or.inl ⟨by rfl, ?_⟩) ?_ ?_
                     rotate_left
                     ·intro w'
                      go_simp
                      with_reducible rfl
                     rotate_left
                     ·simp only [Act.put, sB, i64_w, i32_w]
                      rfl
                     refine pure_ (i := 9) (N := some 30) (v := ?_) (a' := ?_) #[true, true, true, true, true, true, true, true, true, true, false, false, false, false, false, false, false, false, false, false, false, false, false, false, false, false, false, false, false, false, false, false, false, false, false, false, false, false, false] rfl rfl (any_of HT_.out (by kernel_rfl)) (fun _ _ _ h => h) (Or.inl ⟨by rfl, ?_⟩) ?_ ?_
                     rotate_left
                     ·intro w'
                      go_simp
                      with_reducible rfl
                     rotate_left
                     ·simp only [Act.put, sB, i64_w, i32_w]
                      rfl
                     refine pure_ (i := 10) (N := some 31) (v := ?_) (a' := ?_) #[true, true, true, true, true, true, true, true, true, true, true, false, false, false, false, false, false, false, false, false, false, false, false, false, false, false, false, false, false, false, false, false, false, false, false, false, false, false, false] rfl rfl (any_of HT_.out (by kernel_rfl)) (fun _ _ _ h => h) (Or.inl ⟨by rfl, ?_⟩) ?_ ?_
                     rotate_left
                     ·intro w'
                      go_simp
                      with_reducible rfl
                     rotate_left
                     ·simp only [Act.put, sB, i64_w, i32_w]
                      rfl
                     refine pure_ (i := 11) (N := some 32) (v := ?_) (a' := ?_) #[true, true, true, true, true, true, true, true, true, true, true, true, false, false, false, false, false, false, false, false, false, false, false, false, false, false, false, false, false, false, false, false, false, false, false, false, false, false, false] rfl rfl (any_of HT_.out (by kernel_rfl)) (fun _ _ _ h => h) (Or.inl ⟨by rfl, ?_⟩) ?_ ?_
                     rotate_left
                     ·intro w'
                      go_simp
                      with_reducible rfl
                     rotate_left
                     ·simp only [Act.put, sB, i64_w, i32_w]
                      rfl
                     refine pure_ (i := 12) (N := some 33) (v := ?_) (a' := ?_) #[true, true, true, true, true, true, true, true, true, true, true, true, true, false, false, false, false, false, false, false, false, false, false, false, false, false, false, false, false, false, false, false, false, false, false, false, false, false, false] rfl rfl (any_of HT_.out (by kernel_rfl)) (fun _ _ _ h => h) (Or.inl ⟨by rfl, ?_⟩) ?_ ?_
                     rotate_left
                     ·intro w'
                      go_simp
                      with_reducible rfl
                     rotate_left
                     ·simp only [Act.put, sB, i64_w, i32_w]
                      rfl
                     refine pure_ (i := 13) (N := some 34) (v := ?_) (a' := ?_) #[true, true, true, true, true, true, true, true, true, true, true, true, true, true, false, false, false, false, false, false, false, false, false, false, false, false, false, false, false, false, false, false, false, false, false, false, false, false, false] rfl rfl (any_of HT_.out (by kernel_rfl)) (fun _ _ _ h => h) (Or.inl ⟨by rfl, ?_⟩) ?_ ?_
                     rotate_left
                     ·intro w'
                      go_simp
                      with_reducible rfl
                     rotate_left
                     ·simp only [Act.put, sB, i64_w, i32_w]
                      rfl
                     refine pure_ (i := 14) (N := some 35) (v := ?_) (a' := ?_) #[true, true, true, true, true, true, true, true, true, true, true, true, true, true, true, false, false, false, false, false, false, false, false, false, false, false, false, false, false, false, false, false, false, false, false, false, false, false, false] rfl rfl (any_of HT_.out (by kernel_rfl)) (fun _ _ _ h => h) (Or.inl ⟨by rfl, ?_⟩) ?_ ?_
                     rotate_left
                     ·intro w'
                      go_simp
                      with_reducible rfl
                     rotate_left
                     ·simp only [Act.put, sB, i64_w, i32_w]
                      rfl
                     refine pure_ (i := 15) (N := some 36) (v := ?_) (a' := ?_) #[true, true, true, true, true, true, true, true, true, true, true, true, true, true, true, true, false, false, false, false, false, false, false, false, false, false, false, false, false, false, false, false, false, false, false, false, false, false, false] rfl rfl (any_of HT_.out (by kernel_rfl)) (fun _ _ _ h => h) (Or.inl ⟨by rfl, ?_⟩) ?_ ?_
                     rotate_left
                     ·intro w'
                      go_simp
                      with_reducible rfl
                     rotate_left
                     ·simp only [Act.put, sB, i64_w, i32_w]
                      rfl
                     refine pure_ (i := 16) (N := some 37) (v := ?_) (a' := ?_) #[true, true, true, true, true, true, true, true, true, true, true, true, true, true, true, true, true, false, false, false, false, false, false, false, false, false, false, false, false, false, false, false, false, false, false, false, false, false, false] rfl rfl (any_of HT_.out (by kernel_rfl)) (fun _ _ _ h => h) (Or.inl ⟨by rfl, ?_⟩) ?_ ?_
                     rotate_left
                     ·intro w'
                      go_simp
                      with_reducible rfl
                     rotate_left
                     ·simp only [Act.put, sB, i64_w, i32_w]
                      rfl
                     refine pure_ (i := 18) (N := some 39) (v := ?_) (a' := ?_) #[true, true, true, true, true, true, true, true, true, true, true, true, true, true, true, true, true, false, true, false, false, false, false, false, false, false, false, false, false, false, false, false, false, false, false, false, false, false, false] rfl rfl (any_of HT_.out (by kernel_rfl)) (fun _ _ _ h => h) (Or.inl ⟨by rfl, ?_⟩) ?_ ?_
                     rotate_left
                     ·intro w'
                      go_simp
                      with_reducible rfl
                     rotate_left
                     ·simp only [Act.put, sB, i64_w, i32_w]
                      rfl
                     refine pure_ (i := 19) (N := some 40) (v := ?_) (a' := ?_) #[true, true, true, true, true, true, true, true, true, true, true, true, true, true, true, true, true, false, true, true, false, false, false, false, false, false, false, false, false, false, false, false, false, false, false, false, false, false, false] rfl rfl (any_of HT_.out (by kernel_rfl)) (fun _ _ _ h => h) (Or.inl ⟨by rfl, ?_⟩) ?_ ?_
                     rotate_left
                     ·intro w'
                      go_simp
                      with_reducible rfl
                     rotate_left
                     ·simp only [Act.put, sB, i64_w, i32_w]
                      rfl
                     refine pure_ (i := 20) (N := some 41) (v := ?_) (a' := ?_) #[true, true, true, true, true, true, true, true, true, true, true, true, true, true, true, true, true, false, true, true, true, false, false, false, false, false, false, false, false, false, false, false, false, false, false, false, false, false, false] rfl rfl (any_of HT_.out (by kernel_rfl)) (fun _ _ _ h => h) (Or.inl ⟨by rfl, ?_⟩) ?_ ?_
                     rotate_left
                     ·intro w'
                      go_simp
                      with_reducible rfl
                     rotate_left
                     ·simp only [Act.put, sB, i64_w, i32_w]
                      rfl
                     refine pure_ (i := 25) (N := some 46) (v := ?_) (a' := ?_) #[true, true, true, true, true, true, true, true, true, true, true, true, true, true, true, true, true, false, true, true, true, false, false, false, false, true, false, false, false, false, false, false, false, false, false, false, false, false, false] rfl rfl (any_of HT_.out (by kernel_rfl)) (fun _ _ _ h => h) (Or.inl ⟨by rfl, ?_⟩) ?_ ?_
                     rotate_left
                     ·intro w'
                      go_simp
                      with_reducible rfl
                     rotate_left
                     ·simp only [Act.put, sB, i64_w, i32_w]
                      rfl
                     refine pure_ (i := 26) (N := some 47) (v := ?_) (a' := ?_) #[true, true, true, true, true, true, true, true, true, true, true, true, true, true, true, true, true, false, true, true, true, false, false, false, false, true, true, false, false, false, false, false, false, false, false, false, false, false, false] rfl rfl (any_of HT_.out (by kernel_rfl)) (fun _ _ _ h => h) (Or.inl ⟨by rfl, ?_⟩) ?_ ?_
                     rotate_left
                     ·intro w'
                      go_simp
                      with_reducible rfl
                     rotate_left
                     ·simp only [Act.put, sB, i64_w, i32_w]
                      rfl
                     refine pure_ (i := 27) (N := some 48) (v := ?_) (a' := ?_) #[true, true, true, true, true, true, true, true, true, true, true, true, true, true, true, true, true, false, true, true, true, false, false, false, false, true, true, true, false, false, false, false, false, false, false, false, false, false, false] rfl rfl (any_of HT_.out (by kernel_rfl)) (fun _ _ _ h => h) (Or.inl ⟨by rfl, ?_⟩) ?_ ?_
                     rotate_left
                     ·intro w'
                      go_simp
                      with_reducible rfl
                     rotate_left
                     ·simp only [Act.put, sB, i64_w, i32_w]
                      rfl
                     refine pure_ (i := 29) (N := some 50) (v := ?_) (a' := ?_) #[true, true, true, true, true, true, true, true, true, true, true, true, true, true, true, true, true, false, true, true, true, false, false, false, false, true, true, true, false, true, false, false, false, false, false, false, false, false, false] rfl rfl (any_of HT_.out (by kernel_rfl)) (fun _ _ _ h => h) (Or.inl ⟨by rfl, ?_⟩) ?_ ?_
                     rotate_left
                     ·intro w'
                      go_simp
                      with_reducible rfl
                     rotate_left
                     ·simp only [Act.put, sB, i64_w, i32_w]
                      rfl
                     refine pure_ (i := 30) (N := some 51) (v := ?_) (a' := ?_) #[true, true, true, true, true, true, true, true, true, true, true, true, true, true, true, true, true, false, true, true, true, false, false, false, false, true, true, true, false, true, true, false, false, false, false, false, false, false, false] rfl rfl (any_of HT_.out (by kernel_rfl)) (fun _ _ _ h => h) (Or.inl ⟨by rfl, ?_⟩) ?_ ?_
                     rotate_left
                     ·intro w'
                      go_simp
                      with_reducible rfl
                     rotate_left
                     ·simp only [Act.put, sB, i64_w, i32_w]
                      rfl
                     refine pure_ (i := 31) (N := some 52) (v := ?_) (a' := ?_) #[true, true, true, true, true, true, true, true, true, true, true, true, true, true, true, true, true, false, true, true, true, false, false, false, false, true, true, true, false, true, true, true, false, false, false, false, false, false, false] rfl rfl (any_of HT_.out (by kernel_rfl)) (fun _ _ _ h => h) (Or.inl ⟨by rfl, ?_⟩) ?_ ?_
                     rotate_left
                     ·intro w'
                      go_simp
                      with_reducible rfl
                     rotate_left
                     ·simp only [Act.put, sB, i64_w, i32_w]
                      rfl
                     refine take_ (i := 17) (N := some 38) (v := ?_) (a' := ?_) #[true, true, true, true, true, true, true, true, true, true, true, true, true, true, true, true, true, true, true, true, true, false, false, false, false, true, true, true, false, true, true, true, false, false, false, false, false, false, false] rfl rfl (take_ofW HT_.out HW_.out (by kernel_rfl)) (fun _ _ _ h => h) (Or.inl ⟨by rfl, ?_⟩) hHeld ?_ ?_
                     rotate_left
                     ·rintro w' ⟨s0, s1, s2, s3, s4, s5, s6, s7, s8, s9, s10, s11, s12, s13⟩
                      go_simp
                      with_reducible rfl
                     rotate_left
                     ·simp only [Act.put, sB, i64_w, i32_w]
                      rfl
                     refine take_ (i := 21) (N := some 42) (v := ?_) (a' := ?_) #[true, true, true, true, true, true, true, true, true, true, true, true, true, true, true, true, true, true, true, true, true, true, false, false, false, true, true, true, false, true, true, true, false, false, false, false, false, false, false] rfl rfl (take_ofW HT_.out HW_.out (by kernel_rfl)) (fun _ _ _ h => h) (Or.inl ⟨by rfl, ?_⟩) hHeld ?_ ?_
                     rotate_left
                     ·rintro w' ⟨s0, s1, s2, s3, s4, s5, s6, s7, s8, s9, s10, s11, s12, s13⟩
                      go_simp
                      with_reducible rfl
                     rotate_left
                     ·simp only [Act.put, sB, i64_w, i32_w]
                      rfl
                     refine pure_ (i := 22) (N := some 43) (v := ?_) (a' := ?_) #[true, true, true, true, true, true, true, true, true, true, true, true, true, true, true, true, true, true, true, true, true, true, true, false, false, true, true, true, false, true, true, true, false, false, false, false, false, false, false] rfl rfl (any_of HT_.out (by kernel_rfl)) (fun _ _ _ h => h) (Or.inl ⟨by rfl, ?_⟩) ?_ ?_
                     rotate_left
                     ·intro w'
                      go_simp
                      with_reducible rfl
                     rotate_left
                     ·simp only [Act.put, sB, i64_w, i32_w]
                      rfl
                     refine pure_ (i := 23) (N := some 44) (v := ?_) (a' := ?_) #[true, true, true, true, true, true, true, true, true, true, true, true, true, true, true, true, true, true, true, true, true, true, true, true, false, true, true, true, false, true, true, true, false, false, false, false, false, false, false] rfl rfl (any_of HT_.out (by kernel_rfl)) (fun _ _ _ h => h) (Or.inl ⟨by rfl, ?_⟩) ?_ ?_
                     rotate_left
                     ·intro w'
                      go_simp
                      with_reducible rfl
                     rotate_left
                     ·simp only [Act.put, sB, i64_w, i32_w]
                      rfl
                     refine take_ (i := 24) (N := some 45) (v := ?_) (a' := ?_) #[true, true, true, true, true, true, true, true, true, true, true, true, true, true, true, true, true, true, true, true, true, true, true, true, true, true, true, true, false, true, true, true, false, false, false, false, false, false, false] rfl rfl (take_ofW HT_.out HW_.out (by kernel_rfl)) (fun _ _ _ h => h) (Or.inl ⟨by rfl, ?_⟩) hHeld ?_ ?_
                     rotate_left
                     ·rintro w' ⟨s0, s1, s2, s3, s4, s5, s6, s7, s8, s9, s10, s11, s12, s13⟩
                      go_simp
                      with_reducible rfl
                     rotate_left
                     ·simp only [Act.put, sB, i64_w, i32_w]
                      rfl
                     refine take_ (i := 28) (N := some 49) (v := ?_) (a' := ?_) #[true, true, true, true, true, true, true, true, true, true, true, true, true, true, true, true, true, true, true, true, true, true, true, true, true, true, true, true, true, true, true, true, false, false, false, false, false, false, false] rfl rfl (take_ofW HT_.out HW_.out (by kernel_rfl)) (fun _ _ _ h => h) (Or.inl ⟨by rfl, ?_⟩) hHeld ?_ ?_
                     rotate_left
                     ·rintro w' ⟨s0, s1, s2, s3, s4, s5, s6, s7, s8, s9, s10, s11, s12, s13⟩
                      go_simp
                      with_reducible rfl
                     rotate_left
                     ·simp only [Act.put, sB, i64_w, i32_w]
                      rfl
                     refine take_ (i := 32) (N := some 53) (v := ?_) (a' := ?_) #[true, true, true, true, true, true, true, true, true, true, true, true, true, true, true, true, true, true, true, true, true, true, true, true, true, true, true, true, true, true, true, true, true, false, false, false, false, false, false] rfl rfl (take_ofW HT_.out HW_.out (by kernel_rfl)) (fun _ _ _ h => h) (Or.inl ⟨by rfl, ?_⟩) hHeld ?_ ?_
                     rotate_left
                     ·rintro w' ⟨s0, s1, s2, s3, s4, s5, s6, s7, s8, s9, s10, s11, s12, s13⟩
                      go_simp
                      with_reducible rfl
                     rotate_left
                     ·simp only [Act.put, sB, i64_w, i32_w]
                      rfl
                     refine pure_ (i := 33) (N := some 54) (v := ?_) (a' := ?_) #[true, true, true, true, true, true, true, true, true, true, true, true, true, true, true, true, true, true, true, true, true, true, true, true, true, true, true, true, true, true, true, true, true, true, false, false, false, false, false] rfl rfl (any_of HT_.out (by kernel_rfl)) (fun _ _ _ h => h) (Or.inl ⟨by rfl, ?_⟩) ?_ ?_
                     rotate_left
                     ·intro w'
                      go_simp
                      with_reducible rfl
                     rotate_left
                     ·simp only [Act.put, sB, i64_w, i32_w]
                      rfl
                     refine pure_ (i := 34) (N := some 55) (v := ?_) (a' := ?_) #[true, true, true, true, true, true, true, true, true, true, true, true, true, true, true, true, true, true, true, true, true, true, true, true, true, true, true, true, true, true, true, true, true, true, true, false, false, false, false] rfl rfl (any_of HT_.out (by kernel_rfl)) (fun _ _ _ h => h) (Or.inl ⟨by rfl, ?_⟩) ?_ ?_
                     rotate_left
                     ·intro w'
                      go_simp
                      with_reducible rfl
                     rotate_left
                     ·simp only [Act.put, sB, i64_w, i32_w]
                      rfl
                     refine take_ (i := 35) (N := some 56) (v := ?_) (a' := ?_) #[true, true, true, true, true, true, true, true, true, true, true, true, true, true, true, true, true, true, true, true, true, true, true, true, true, true, true, true, true, true, true, true, true, true, true, true, false, false, false] rfl rfl (take_ofW HT_.out HW_.out (by kernel_rfl)) (fun _ _ _ h => h) (Or.inl ⟨by rfl, ?_⟩) hHeld ?_ ?_
                     rotate_left
                     ·rintro w' ⟨s0, s1, s2, s3, s4, s5, s6, s7, s8, s9, s10, s11, s12, s13⟩
                      go_simp
                      with_reducible rfl
                     rotate_left
                     ·simp only [Act.put, sB, i64_w, i32_w]
                      rfl
                     refine pure_ (i := 36) (N := some 57) (v := ?_) (a' := ?_) #[true, true, true, true, true, true, true, true, true, true, true, true, true, true, true, true, true, true, true, true, true, true, true, true, true, true, true, true, true, true, true, true, true, true, true, true, true, false, false] rfl rfl (any_of HT_.out (by kernel_rfl)) (fun _ _ _ h => h) (Or.inl ⟨by rfl, ?_⟩) ?_ ?_
                     rotate_left
                     ·intro w'
                      go_simp
                      with_reducible rfl
                     rotate_left
                     ·simp only [Act.put, sB, i64_w, i32_w]
                      rfl
                     refine pure_ (i := 37) (N := some 58) (v := ?_) (a' := ?_) #[true, true, true, true, true, true, true, true, true, true, true, true, true, true, true, true, true, true, true, true, true, true, true, true, true, true, true, true, true, true, true, true, true, true, true, true, true, true, false] rfl rfl (any_of HT_.out (by kernel_rfl)) (fun _ _ _ h => h) (Or.inl ⟨by rfl, ?_⟩) ?_ ?_
                     rotate_left
                     ·intro w'
                      go_simp
                      with_reducible rfl
                     rotate_left
                     ·simp only [Act.put, sB, i64_w, i32_w]
                      rfl
                     refine pure_ (i := 38) (N := some 59) (v := ?_) (a' := ?_) #[true, true, true, true, true, true, true, true, true, true, true, true, true, true, true, true, true, true, true, true, true, true, true, true, true, true, true, true, true, true, true, true, true, true, true, true, true, true, true] rfl rfl (any_of HT_.out (by kernel_rfl)) (fun _ _ _ h => h) (Or.inl ⟨by rfl, ?_⟩) ?_ ?_
                     rotate_left
                     ·intro w'
                      go_simp
                      with_reducible rfl
                     rotate_left
                     ·simp only [Act.put, sB, i64_w, i32_w]
                      rfl
                     refine done_ (done_of HT_.out (by kernel_rfl)) ?_
                     try go_wp2
                     go_roundg k2
                     case measure => have := HK1.out; have := HK2.out; omega
                     case rel => exact ⟨(x6_2), (wrap64 (x6_2 + 1)), (by first | rfl | (simp; done) | (simp [*]; done)), (by first | rfl | (simp; done) | (simp [*]; done)), H', ⟨by have := HK1.out; have := HK2.out; omega⟩, ⟨by (with_reducible repeat (first | apply Kd.R_alloc | apply Kd.R_drewN | apply Kd.R_drew)); exact HO_3.out⟩, ⟨by (with_reducible repeat (first | apply Kd.R_alloc | apply Kd.R_drewN | apply Kd.R_drew)); exact HO_4.out⟩, ⟨by repeat (first | (with_reducible first | exact HB.out | apply wa | apply wn | apply wd) | exact HB.out)⟩⟩
                    ·rw [if_neg c23] at H
                     have c23b0 : decide (((rd_T64 (rd_L7 y268 x6_2) (rd x3_1 x6_2)).f0) < ((rd_T64 (rd_L7 y268 x5_2) (rd x3_1 x5_2)).f0)) = false := decide_eq_false c23
                     clear c23
                     have H' := asd H
                     clear H
                     try go_wp2
                     have n0_ := asd (Kd.R_drew HO_3.out)
                     have n1_ := asd (Kd.R_drew HO_4.out)
                     have n2_ := asd (below_drew1 HB.out)
                     clear HO_3
                     clear HO_4
                     clear HB
                     have HO_3 := n0_
                     have HO_4 := n1_
                     have HB := n2_
                     clear n0_ n1_ n2_
                     obtain ⟨Ao27, co27, eo27⟩ := Kd.R_slice HO_3.out
                     (first | subst eo27 | (injection eo27 with f1_ f2_ f3_; have f4_ := f1_.symm; have f5_ := f3_.symm; clear f1_ f2_ f3_; subst f4_; subst f5_))
                     have p275 : 0 ≤ (x6_2 : Int) := of_decide_eq_true (by assumption)
                     have q275 : x6_2 < (x3_1.length : Int) := of_decide_eq_true (by assumption)
                     obtain ⟨ad275, e275, hx275_0⟩ := Kd.at_int (Kd.R_reads' HO_3.out).2.2 x6_2 p275 q275
                     cases e275
                     replace p275 := eq_true p275
                     replace q275 := eq_true q275
                     have p276 : 0 ≤ (x6_2 : Int) := of_decide_eq_true (by assumption)
                     have q276 : x6_2 < (y268.length : Int) := of_decide_eq_true (by assumption)
                     obtain ⟨ad276, A276_0, c276_0, e276, hx276_0, hl276_0, hi276_0⟩ := at_L7 HR271.out x6_2 p276 q276
                     have hw276_0 := hx276_0
                     cases e276
                     replace hx276_0 := (HB.out.cell (World.block_lt_of_cell? w _ hx276_0)).trans hx276_0
                     have HR276_0 := asd hi276_0
                     have HC276_0 := asd hl276_0
                     clear hi276_0 hl276_0
                     replace p276 := eq_true p276
                     replace q276 := eq_true q276
                     have p277 : 0 ≤ (x6_2 : Int) := of_decide_eq_true (by assumption)
                     have q277 : x6_2 < (y268.length : Int) := of_decide_eq_true (by assumption)
                     obtain ⟨ad277, A277_0, c277_0, e277, hx277_0, hl277_0, hi277_0⟩ := at_L7 HR271.out x6_2 p277 q277
                     have hw277_0 := hx277_0
                     obtain rfl : ad276 = ad277 := (by injection e277)
                     replace hx277_0 := (HB.out.cell (World.block_lt_of_cell? w _ hx277_0)).trans hx277_0
                     have HR277_0 := asd hi277_0
                     have HC277_0 := asd hl277_0
                     clear hi277_0 hl277_0
                     replace p277 := eq_true p277
                     replace q277 := eq_true q277
                     have ea_ := Option.some.inj (hx276_0.symm.trans hx277_0)
                     injection ea_ with ea_ en_ ec_
                     subst ea_
                     subst ec_
                     clear en_
                     have p278 : 0 ≤ (x6_2 : Int) := of_decide_eq_true (by assumption)
                     have q278 : x6_2 < (x3_1.length : Int) := of_decide_eq_true (by assumption)
                     obtain ⟨ad278, e278, hx278_0⟩ := Kd.at_int (Kd.R_reads' HO_3.out).2.2 x6_2 p278 q278
                     obtain rfl : ad275 = ad278 := (by injection e278)
                     replace p278 := eq_true p278
                     replace q278 := eq_true q278
                     have p279 : 0 ≤ ((rd x3_1 x6_2) : Int) := of_decide_eq_true (by assumption)
                     have q279 : (rd x3_1 x6_2) < ((rd_L7 y268 x6_2).length : Int) := of_decide_eq_true (by assumption)
                     obtain ⟨ad279, e279, hx279_0, hx279_1, hx279_2, hx279_3⟩ := at_T64 HR277_0.out (rd x3_1 x6_2) p279 q279
                     have hw279_3 := hx279_3
                     have hw279_2 := hx279_2
                     have hw279_1 := hx279_1
                     have hw279_0 := hx279_0
                     cases e279
                     replace hx279_0 := (HB.out.cell (World.block_lt_of_cell? w _ hx279_0)).trans hx279_0
                     replace hx279_1 := (HB.out.cell (World.block_lt_of_cell? w _ hx279_1)).trans hx279_1
                     replace hx279_2 := (HB.out.cell (World.block_lt_of_cell? w _ hx279_2)).trans hx279_2
                     replace hx279_3 := (HB.out.cell (World.block_lt_of_cell? w _ hx279_3)).trans hx279_3
                     replace p279 := eq_true p279
                     replace q279 := eq_true q279
                     have p280 : 0 ≤ (x5_2 : Int) := of_decide_eq_true (by assumption)
                     have q280 : x5_2 < (y268.length : Int) := of_decide_eq_true (by assumption)
                     obtain ⟨ad280, A280_0, c280_0, e280, hx280_0, hl280_0, hi280_0⟩ := at_L7 HR271.out x5_2 p280 q280
                     have hw280_0 := hx280_0
                     obtain rfl : ad276 = ad280 := (by injection e280)
                     replace hx280_0 := (HB.out.cell (World.block_lt_of_cell? w _ hx280_0)).trans hx280_0
                     have HR280_0 := asd hi280_0
                     have HC280_0 := asd hl280_0
                     clear hi280_0 hl280_0
                     replace p280 := eq_true p280
                     replace q280 := eq_true q280
                     have p281 : 0 ≤ (x5_2 : Int) := of_decide_eq_true (by assumption)
                     have q281 : x5_2 < (x3_1.length : Int) := of_decide_eq_true (by assumption)
                     obtain ⟨ad281, e281, hx281_0⟩ := Kd.at_int (Kd.R_reads' HO_3.out).2.2 x5_2 p281 q281
                     obtain rfl : ad275 = ad281 := (by injection e281)
                     replace p281 := eq_true p281
                     replace q281 := eq_true q281
                     have p282 : 0 ≤ ((rd x3_1 x5_2) : Int) := of_decide_eq_true (by assumption)
                     have q282 : (rd x3_1 x5_2) < ((rd_L7 y268 x5_2).length : Int) := of_decide_eq_true (by assumption)
                     obtain ⟨ad282, e282, hx282_0, hx282_1, hx282_2, hx282_3⟩ := at_T64 HR280_0.out (rd x3_1 x5_2) p282 q282
                     have hw282_3 := hx282_3
                     have hw282_2 := hx282_2
                     have hw282_1 := hx282_1
                     have hw282_0 := hx282_0
                     cases e282
                     replace hx282_0 := (HB.out.cell (World.block_lt_of_cell? w _ hx282_0)).trans hx282_0
                     replace hx282_1 := (HB.out.cell (World.block_lt_of_cell? w _ hx282_1)).trans hx282_1
                     replace hx282_2 := (HB.out.cell (World.block_lt_of_cell? w _ hx282_2)).trans hx282_2
                     replace hx282_3 := (HB.out.cell (World.block_lt_of_cell? w _ hx282_3)).trans hx282_3
                     replace p282 := eq_true p282
                     replace q282 := eq_true q282
                     refine start_ (n := 39) (S := fun w' => w'.cell? (ad275.add (x6_2).toNat) = some (.int .i64 (rd x3_1 x6_2)) ∧ w'.cell? (ad276.add (x6_2).toNat) = some (.slice (some ad279) (rd_L7 y268 x6_2).length c276_0) ∧ w'.cell? (ad276.add (x6_2).toNat) = some (.slice (some ad279) (rd_L7 y268 x6_2).length c276_0) ∧ w'.cell? (ad275.add (x6_2).toNat) = some (.int .i64 (rd x3_1 x6_2)) ∧ w'.cell? (ad279.add (((rd x3_1 x6_2)).toNat * 4)) = some (.int .i64 ((rd_T64 (rd_L7 y268 x6_2) (rd x3_1 x6_2)).f0)) ∧ w'.cell? ⟨(ad279.add (((rd x3_1 x6_2)).toNat * 4)).block, (ad279.add (((rd x3_1 x6_2)).toNat * 4)).off + 1, none⟩ = some (.int .i64 ((rd_T64 (rd_L7 y268 x6_2) (rd x3_1 x6_2)).f1)) ∧ w'.cell? ⟨(ad279.add (((rd x3_1 x6_2)).toNat * 4)).block, (ad279.add (((rd x3_1 x6_2)).toNat * 4)).off + 2, none⟩ = some (.int .i64 ((rd_T64 (rd_L7 y268 x6_2) (rd x3_1 x6_2)).f2)) ∧ w'.cell? ⟨(ad279.add (((rd x3_1 x6_2)).toNat * 4)).block, (ad279.add (((rd x3_1 x6_2)).toNat * 4)).off + 3, none⟩ = some (.int .i64 ((rd_T64 (rd_L7 y268 x6_2) (rd x3_1 x6_2)).f3)) ∧ w'.cell? (ad276.add (x5_2).toNat) = some (.slice (some ad282) (rd_L7 y268 x5_2).length c280_0) ∧ w'.cell? (ad275.add (x5_2).toNat) = some (.int .i64 (rd x3_1 x5_2)) ∧ w'.cell? (ad282.add (((rd x3_1 x5_2)).toNat * 4)) = some (.int .i64 ((rd_T64 (rd_L7 y268 x5_2) (rd x3_1 x5_2)).f0)) ∧ w'.cell? ⟨(ad282.add (((rd x3_1 x5_2)).toNat * 4)).block, (ad282.add (((rd x3_1 x5_2)).toNat * 4)).off + 1, none⟩ = some (.int .i64 ((rd_T64 (rd_L7 y268 x5_2) (rd x3_1 x5_2)).f1)) ∧ w'.cell? ⟨(ad282.add (((rd x3_1 x5_2)).toNat * 4)).block, (ad282.add (((rd x3_1 x5_2)).toNat * 4)).off + 2, none⟩ = some (.int .i64 ((rd_T64 (rd_L7 y268 x5_2) (rd x3_1 x5_2)).f2)) ∧ w'.cell? ⟨(ad282.add (((rd x3_1 x5_2)).toNat * 4)).block, (ad282.add (((rd x3_1 x5_2)).toNat * 4)).off + 3, none⟩ = some (.int .i64 ((rd_T64 (rd_L7 y268 x5_2) (rd x3_1 x5_2)).f3))) (ds := []) #[false, false, false, false, false, false, false, false, false, false, false, false, false, false, false, false, false, false, false, false, false, false, false, false, false, false, false, false, false, false, false, false, false, false, false, false, false, false, false] (by kernel_rfl) rfl rfl ⟨hx275_0, ((HB.out.cell (World.block_lt_of_cell? w _ hw276_0)).trans hw276_0), ((HB.out.cell (World.block_lt_of_cell? w _ hw277_0)).trans hw277_0), hx278_0, ((HB.out.cell (World.block_lt_of_cell? w _ hw279_0)).trans hw279_0), ((HB.out.cell (World.block_lt_of_cell? w _ hw279_1)).trans hw279_1), ((HB.out.cell (World.block_lt_of_cell? w _ hw279_2)).trans hw279_2), ((HB.out.cell (World.block_lt_of_cell? w _ hw279_3)).trans hw279_3), ((HB.out.cell (World.block_lt_of_cell? w _ hw280_0)).trans hw280_0), hx281_0, ((HB.out.cell (World.block_lt_of_cell? w _ hw282_0)).trans hw282_0), ((HB.out.cell (World.block_lt_of_cell? w _ hw282_1)).trans hw282_1), ((HB.out.cell (World.block_lt_of_cell? w _ hw282_2)).trans hw282_2), ((HB.out.cell (World.block_lt_of_cell? w _ hw282_3)).trans hw282_3)⟩ (fun hHeld => ?_); refine with_tabW parcloseref40_Logs.tab8 parcloseref40_Logs.bits8 (fun HT_ HW_ => ?_)
                     generalize wr.drew = w26 at HO_3 HO_4 HB HR276_0 HR277_0 HR280_0 hx275_0 hx276_0 hx277_0 hx278_0 hx279_0 hx279_1 hx279_2 hx279_3 hx280_0 hx281_0 hx282_0 hx282_1 hx282_2 hx282_3 hHeld ⊢
                     refine pure_ (i := 0) (N := some 21) (v := ?_) (a' := ?_) #[true, false, false, false, false, false, false, false, false, false, false, false, false, false, false, false, false, false, false, false, false, false, false, false, false, false, false, false, false, false, false, false, false, false, false, false, false, false, false] rfl rfl (any_of HT_.out (by kernel_rfl)) (fun _ _ _ h => h) (Or.inl ⟨by rfl, ?_⟩) ?_ ?_
                     rotate_left
                     ·intro w'
                      go_simp
                      with_reducible rfl
                     rotate_left
                     ·simp only [Act.put, sB, i64_w, i32_w]
                      rfl
                     refine pure_ (i := 1) (N := some 22) (v := ?_) (a' := ?_) #[true, true, false, false, false, false, false, false, false, false, false, false, false, false, false, false, false, false, false, false, false, false, false, false, false, false, false, false, false, false, false, false, false, false, false, false, false, false, false] rfl rfl (any_of HT_.out (by kernel_rfl)) (fun _ _ _ h => h) (Or.inl ⟨by rfl, ?_⟩) ?_ ?_
                     rotate_left
                     ·intro w'
                      go_simp
                      with_reducible rfl
                     rotate_left
                     ·simp only [Act.put, sB, i64_w, i32_w]
                      rfl
                     refine pure_ (i := 2) (N := some 23) (v := ?_) (a' := ?_) #[true, true, true, false, false, false, false, false, false, false, false, false, false, false, false, false, false, false, false, false, false, false, false, false, false, false, false, false, false, false, false, false, false, false, false, false, false, false, false] rfl rfl (any_of HT_.out (by kernel_rfl)) (fun _ _ _ h => h) (Or.inl ⟨by rfl, ?_⟩) ?_ ?_
                     rotate_left
                     ·intro w'
                      go_simp
                      with_reducible rfl
                     rotate_left
                     ·simp only [Act.put, sB, i64_w, i32_w]
                      rfl
                     refine pure_ (i := 4) (N := some 25) (v := ?_) (a' := ?_) #[true, true, true, false, true, false, false, false, false, false, false, false, false, false, false, false, false, false, false, false, false, false, false, false, false, false, false, false, false, false, false, false, false, false, false, false, false, false, false] rfl rfl (any_of HT_.out (by kernel_rfl)) (fun _ _ _ h => h) (Or.inl ⟨by rfl, ?_⟩) ?_ ?_
                     rotate_left
                     ·intro w'
                      go_simp
                      with_reducible rfl
                     rotate_left
                     ·simp only [Act.put, sB, i64_w, i32_w]
                      rfl
                     refine pure_ (i := 5) (N := some 26) (v := ?_) (a' := ?_) #[true, true, true, false, true, true, false, false, false, false, false, false, false, false, false, false, false, false, false, false, false, false, false, false, false, false, false, false, false, false, false, false, false, false, false, false, false, false, false] rfl rfl (any_of HT_.out (by kernel_rfl)) (fun _ _ _ h => h) (Or.inl ⟨by rfl, ?_⟩) ?_ ?_
                     rotate_left
                     ·intro w'
                      go_simp
                      with_reducible rfl
                     rotate_left
                     ·simp only [Act.put, sB, i64_w, i32_w]
                      rfl
                     refine pure_ (i := 6) (N := some 27) (v := ?_) (a' := ?_) #[true, true, true, false, true, true, true, false, false, false, false, false, false, false, false, false, false, false, false, false, false, false, false, false, false, false, false, false, false, false, false, false, false, false, false, false, false, false, false] rfl rfl (any_of HT_.out (by kernel_rfl)) (fun _ _ _ h => h) (Or.inl ⟨by rfl, ?_⟩) ?_ ?_
                     rotate_left
                     ·intro w'
                      go_simp
                      with_reducible rfl
                     rotate_left
                     ·simp only [Act.put, sB, i64_w, i32_w]
                      rfl
                     refine take_ (i := 3) (N := some 24) (v := ?_) (a' := ?_) #[true, true, true, true, true, true, true, false, false, false, false, false, false, false, false, false, false, false, false, false, false, false, false, false, false, false, false, false, false, false, false, false, false, false, false, false, false, false, false] rfl rfl (take_ofW HT_.out HW_.out (by kernel_rfl)) (fun _ _ _ h => h) (Or.inl ⟨by rfl, ?_⟩) hHeld ?_ ?_
                     rotate_left
                     ·rintro w' ⟨s0, s1, s2, s3, s4, s5, s6, s7, s8, s9, s10, s11, s12, s13⟩
                      go_simp
                      with_reducible rfl
                     rotate_left
                     ·simp only [Act.put, sB, i64_w, i32_w]
                      rfl
                     refine take_ (i := 7) (N := some 28) (v := ?_) (a' := ?_) #[true, true, true, true, true, true, true, true, false, false, false, false, false, false, false, false, false, false, false, false, false, false, false, false, false, false, false, false, false, false, false, false, false, false, false, false, false, false, false] rfl rfl (take_ofW HT_.out HW_.out (by kernel_rfl)) (fun _ _ _ h => h) (Or.inl ⟨by rfl, ?_⟩) hHeld ?_ ?_
                     rotate_left
                     ·rintro w' ⟨s0, s1, s2, s3, s4, s5, s6, s7, s8, s9, s10, s11, s12, s13⟩
                      go_simp
                      with_reducible rfl
                     rotate_left
                     ·simp only [Act.put, sB, i64_w, i32_w]
                      rfl
                     refine pure_ (i := 8) (N := some 29) (v := ?_) (a' := ?_) #[true, true, true, true, true, true, true, true, true, false, false, false, false, false, false, false, false, false, false, false, false, false, false, false, false, false, false, false, false, false, false, false, false, false, false, false, false, false, false] rfl rfl (any_of HT_.out (by kernel_rfl)) (fun _ _ _ h => h) (Or.inl ⟨by rfl, ?_⟩) ?_ ?_
                     rotate_left
                     ·intro w'
                      go_simp
                      with_reducible rfl
                     rotate_left
                     ·simp only [Act.put, sB, i64_w, i32_w]
                      rfl
                     refine pure_ (i := 9) (N := some 30) (v := ?_) (a' := ?_) #[true, true, true, true, true, true, true, true, true, true, false, false, false, false, false, false, false, false, false, false, false, false, false, false, false, false, false, false, false, false, false, false, false, false, false, false, false, false, false] rfl rfl (any_of HT_.out (by kernel_rfl)) (fun _ _ _ h => h) (Or.inl ⟨by rfl, ?_⟩) ?_ ?_
                     rotate_left
                     ·intro w'
                      go_simp
                      with_reducible rfl
                     rotate_left
                     ·simp only [Act.put, sB, i64_w, i32_w]
                      rfl
                     refine pure_ (i := 10) (N := some 31) (v := ?_) (a' := ?_) #[true, true, true, true, true, true, true, true, true, true, true, false, false, false, false, false, false, false, false, false, false, false, false, false, false, false, false, false, false, false, false, false, false, false, false, false, false, false, false] rfl rfl (any_of HT_.out (by kernel_rfl)) (fun _ _ _ h => h) (Or.inl ⟨by rfl, ?_⟩) ?_ ?_
                     rotate_left
                     ·intro w'
                      go_simp
                      with_reducible rfl
                     rotate_left
                     ·simp only [Act.put, sB, i64_w, i32_w]
                      rfl
                     refine pure_ (i := 11) (N := some 32) (v := ?_) (a' := ?_) #[true, true, true, true, true, true, true, true, true, true, true, true, false, false, false, false, false, false, false, false, false, false, false, false, false, false, false, false, false, false, false, false, false, false, false, false, false, false, false] rfl rfl (any_of HT_.out (by kernel_rfl)) (fun _ _ _ h => h) (Or.inl ⟨by rfl, ?_⟩) ?_ ?_
                     rotate_left
                     ·intro w'
                      go_simp
                      with_reducible rfl
                     rotate_left
                     ·simp only [Act.put, sB, i64_w, i32_w]
                      rfl
                     refine pure_ (i := 12) (N := some 33) (v := ?_) (a' := ?_) #[true, true, true, true, true, true, true, true, true, true, true, true, true, false, false, false, false, false, false, false, false, false, false, false, false, false, false, false, false, false, false, false, false, false, false, false, false, false, false] rfl rfl (any_of HT_.out (by kernel_rfl)) (fun _ _ _ h => h) (Or.inl ⟨by rfl, ?_⟩) ?_ ?_
                     rotate_left
                     ·intro w'
                      go_simp
                      with_reducible rfl
                     rotate_left
                     ·simp only [Act.put, sB, i64_w, i32_w]
                      rfl
                     refine pure_ (i := 13) (N := some 34) (v := ?_) (a' := ?_) #[true, true, true, true, true, true, true, true, true, true, true, true, true, true, false, false, false, false, false, false, false, false, false, false, false, false, false, false, false, false, false, false, false, false, false, false, false, false, false] rfl rfl (any_of HT_.out (by kernel_rfl)) (fun _ _ _ h => h) (Or.inl ⟨by rfl, ?_⟩) ?_ ?_
                     rotate_left
                     ·intro w'
                      go_simp
                      with_reducible rfl
                     rotate_left
                     ·simp only [Act.put, sB, i64_w, i32_w]
                      rfl
                     refine pure_ (i := 14) (N := some 35) (v := ?_) (a' := ?_) #[true, true, true, true, true, true, true, true, true, true, true, true, true, true, true, false, false, false, false, false, false, false, false, false, false, false, false, false, false, false, false, false, false, false, false, false, false, false, false] rfl rfl (any_of HT_.out (by kernel_rfl)) (fun _ _ _ h => h) (Or.inl ⟨by rfl, ?_⟩) ?_ ?_
                     rotate_left
                     ·intro w'
                      go_simp
                      with_reducible rfl
                     rotate_left
                     ·simp only [Act.put, sB, i64_w, i32_w]
                      rfl
                     refine pure_ (i := 15) (N := some 36) (v := ?_) (a' := ?_) #[true, true, true, true, true, true, true, true, true, true, true, true, true, true, true, true, false, false, false, false, false, false, false, false, false, false, false, false, false, false, false, false, false, false, false, false, false, false, false] rfl rfl (any_of HT_.out (by kernel_rfl)) (fun _ _ _ h => h) (Or.inl ⟨by rfl, ?_⟩) ?_ ?_
                     rotate_left
                     ·intro w'
                      go_simp
                      with_reducible rfl
                     rotate_left
                     ·simp only [Act.put, sB, i64_w, i32_w]
                      rfl
                     refine pure_ (i := 16) (N := some 37) (v := ?_) (a' := ?_) #[true, true, true, true, true, true, true, true, true, true, true, true, true, true, true, true, true, false, false, false, false, false, false, false, false, false, false, false, false, false, false, false, false, false, false, false, false, false, false] rfl rfl (any_of HT_.out (by kernel_rfl)) (fun _ _ _ h => h) (Or.inl ⟨by rfl, ?_⟩) ?_ ?_
                     rotate_left
                     ·intro w'
                      go_simp
                      with_reducible rfl
                     rotate_left
                     ·simp only [Act.put, sB, i64_w, i32_w]
                      rfl
                     refine pure_ (i := 18) (N := some 39) (v := ?_) (a' := ?_) #[true, true, true, true, true, true, true, true, true, true, true, true, true, true, true, true, true, false, true, false, false, false, false, false, false, false, false, false, false, false, false, false, false, false, false, false, false, false, false] rfl rfl (any_of HT_.out (by kernel_rfl)) (fun _ _ _ h => h) (Or.inl ⟨by rfl, ?_⟩) ?_ ?_
                     rotate_left
                     ·intro w'
                      go_simp
                      with_reducible rfl
                     rotate_left
                     ·simp only [Act.put, sB, i64_w, i32_w]
                      rfl
                     refine pure_ (i := 19) (N := some 40) (v := ?_) (a' := ?_) #[true, true, true, true, true, true, true, true, true, true, true, true, true, true, true, true, true, false, true, true, false, false, false, false, false, false, false, false, false, false, false, false, false, false, false, false, false, false, false] rfl rfl (any_of HT_.out (by kernel_rfl)) (fun _ _ _ h => h) (Or.inl ⟨by rfl, ?_⟩) ?_ ?_
                     rotate_left
                     ·intro w'
                      go_simp
                      with_reducible rfl
                     rotate_left
                     ·simp only [Act.put, sB, i64_w, i32_w]
                      rfl
                     refine pure_ (i := 20) (N := some 41) (v := ?_) (a' := ?_) #[true, true, true, true, true, true, true, true, true, true, true, true, true, true, true, true, true, false, true, true, true, false, false, false, false, false, false, false, false, false, false, false, false, false, false, false, false, false, false] rfl rfl (any_of HT_.out (by kernel_rfl)) (fun _ _ _ h => h) (Or.inl ⟨by rfl, ?_⟩) ?_ ?_
                     rotate_left
                     ·intro w'
                      go_simp
                      with_reducible rfl
                     rotate_left
                     ·simp only [Act.put, sB, i64_w, i32_w]
                      rfl
                     refine pure_ (i := 25) (N := some 46) (v := ?_) (a' := ?_) #[true, true, true, true, true, true, true, true, true, true, true, true, true, true, true, true, true, false, true, true, true, false, false, false, false, true, false, false, false, false, false, false, false, false, false, false, false, false, false] rfl rfl (any_of HT_.out (by kernel_rfl)) (fun _ _ _ h => h) (Or.inl ⟨by rfl, ?_⟩) ?_ ?_
                     rotate_left
                     ·intro w'
                      go_simp
                      with_reducible rfl
                     rotate_left
                     ·simp only [Act.put, sB, i64_w, i32_w]
                      rfl
                     refine pure_ (i := 26) (N := some 47) (v := ?_) (a' := ?_) #[true, true, true, true, true, true, true, true, true, true, true, true, true, true, true, true, true, false, true, true, true, false, false, false, false, true, true, false, false, false, false, false, false, false, false, false, false, false, false] rfl rfl (any_of HT_.out (by kernel_rfl)) (fun _ _ _ h => h) (Or.inl ⟨by rfl, ?_⟩) ?_ ?_
                     rotate_left
                     ·intro w'
                      go_simp
                      with_reducible rfl
                     rotate_left
                     ·simp only [Act.put, sB, i64_w, i32_w]
                      rfl
                     refine pure_ (i := 27) (N := some 48) (v := ?_) (a' := ?_) #[true, true, true, true, true, true, true, true, true, true, true, true, true, true, true, true, true, false, true, true, true, false, false, false, false, true, true, true, false, false, false, false, false, false, false, false, false, false, false] rfl rfl (any_of HT_.out (by kernel_rfl)) (fun _ _ _ h => h) (Or.inl ⟨by rfl, ?_⟩) ?_ ?_
                     rotate_left
                     ·intro w'
                      go_simp
                      with_reducible rfl
                     rotate_left
                     ·simp only [Act.put, sB, i64_w, i32_w]
                      rfl
                     refine pure_ (i := 29) (N := some 50) (v := ?_) (a' := ?_) #[true, true, true, true, true, true, true, true, true, true, true, true, true, true, true, true, true, false, true, true, true, false, false, false, false, true, true, true, false, true, false, false, false, false, false, false, false, false, false] rfl rfl (any_of HT_.out (by kernel_rfl)) (fun _ _ _ h => h) (Or.inl ⟨by rfl, ?_⟩) ?_ ?_
                     rotate_left
                     ·intro w'
                      go_simp
                      with_reducible rfl
                     rotate_left
                     ·simp only [Act.put, sB, i64_w, i32_w]
                      rfl
                     refine pure_ (i := 30) (N := some 51) (v := ?_) (a' := ?_) #[true, true, true, true, true, true, true, true, true, true, true, true, true, true, true, true, true, false, true, true, true, false, false, false, false, true, true, true, false, true, true, false, false, false, false, false, false, false, false] rfl rfl (any_of HT_.out (by kernel_rfl)) (fun _ _ _ h => h) (Or.inl ⟨by rfl, ?_⟩) ?_ ?_
                     rotate_left
                     ·intro w'
                      go_simp
                      with_reducible rfl
                     rotate_left
                     ·simp only [Act.put, sB, i64_w, i32_w]
                      rfl
                     refine pure_ (i := 31) (N := some 52) (v := ?_) (a' := ?_) #[true, true, true, true, true, true, true, true, true, true, true, true, true, true, true, true, true, false, true, true, true, false, false, false, false, true, true, true, false, true, true, true, false, false, false, false, false, false, false] rfl rfl (any_of HT_.out (by kernel_rfl)) (fun _ _ _ h => h) (Or.inl ⟨by rfl, ?_⟩) ?_ ?_
                     rotate_left
                     ·intro w'
                      go_simp
                      with_reducible rfl
                     rotate_left
                     ·simp only [Act.put, sB, i64_w, i32_w]
                      rfl
                     refine take_ (i := 17) (N := some 38) (v := ?_) (a' := ?_) #[true, true, true, true, true, true, true, true, true, true, true, true, true, true, true, true, true, true, true, true, true, false, false, false, false, true, true, true, false, true, true, true, false, false, false, false, false, false, false] rfl rfl (take_ofW HT_.out HW_.out (by kernel_rfl)) (fun _ _ _ h => h) (Or.inl ⟨by rfl, ?_⟩) hHeld ?_ ?_
                     rotate_left
                     ·rintro w' ⟨s0, s1, s2, s3, s4, s5, s6, s7, s8, s9, s10, s11, s12, s13⟩
                      go_simp
                      with_reducible rfl
                     rotate_left
                     ·simp only [Act.put, sB, i64_w, i32_w]
                      rfl
                     refine take_ (i := 21) (N := some 42) (v := ?_) (a' := ?_) #[true, true, true, true, true, true, true, true, true, true, true, true, true, true, true, true, true, true, true, true, true, true, false, false, false, true, true, true, false, true, true, true, false, false, false, false, false, false, false] rfl rfl (take_ofW HT_.out HW_.out (by kernel_rfl)) (fun _ _ _ h => h) (Or.inl ⟨by rfl, ?_⟩) hHeld ?_ ?_
                     rotate_left
                     ·rintro w' ⟨s0, s1, s2, s3, s4, s5, s6, s7, s8, s9, s10, s11, s12, s13⟩
                      go_simp
                      with_reducible rfl
                     rotate_left
                     ·simp only [Act.put, sB, i64_w, i32_w]
                      rfl
                     refine pure_ (i := 22) (N := some 43) (v := ?_) (a' := ?_) #[true, true, true, true, true, true, true, true, true, true, true, true, true, true, true, true, true, true, true, true, true, true, true, false, false, true, true, true, false, true, true, true, false, false, false, false, false, false, false] rfl rfl (any_of HT_.out (by kernel_rfl)) (fun _ _ _ h => h) (Or.inl ⟨by rfl, ?_⟩) ?_ ?_
                     rotate_left
                     ·intro w'
                      go_simp
                      with_reducible rfl
                     rotate_left
                     ·simp only [Act.put, sB, i64_w, i32_w]
                      rfl
                     refine pure_ (i := 23) (N := some 44) (v := ?_) (a' := ?_) #[true, true, true, true, true, true, true, true, true, true, true, true, true, true, true, true, true, true, true, true, true, true, true, true, false, true, true, true, false, true, true, true, false, false, false, false, false, false, false] rfl rfl (any_of HT_.out (by kernel_rfl)) (fun _ _ _ h => h) (Or.inl ⟨by rfl, ?_⟩) ?_ ?_
                     rotate_left
                     ·intro w'
                      go_simp
                      with_reducible rfl
                     rotate_left
                     ·simp only [Act.put, sB, i64_w, i32_w]
                      rfl
                     refine take_ (i := 24) (N := some 45) (v := ?_) (a' := ?_) #[true, true, true, true, true, true, true, true, true, true, true, true, true, true, true, true, true, true, true, true, true, true, true, true, true, true, true, true, false, true, true, true, false, false, false, false, false, false, false] rfl rfl (take_ofW HT_.out HW_.out (by kernel_rfl)) (fun _ _ _ h => h) (Or.inl ⟨by rfl, ?_⟩) hHeld ?_ ?_
                     rotate_left
                     ·rintro w' ⟨s0, s1, s2, s3, s4, s5, s6, s7, s8, s9, s10, s11, s12, s13⟩
                      go_simp
                      with_reducible rfl
                     rotate_left
                     ·simp only [Act.put, sB, i64_w, i32_w]
                      rfl
                     refine take_ (i := 28) (N := some 49) (v := ?_) (a' := ?_) #[true, true, true, true, true, true, true, true, true, true, true, true, true, true, true, true, true, true, true, true, true, true, true, true, true, true, true, true, true, true, true, true, false, false, false, false, false, false, false] rfl rfl (take_ofW HT_.out HW_.out (by kernel_rfl)) (fun _ _ _ h => h) (Or.inl ⟨by rfl, ?_⟩) hHeld ?_ ?_
                     rotate_left
                     ·rintro w' ⟨s0, s1, s2, s3, s4, s5, s6, s7, s8, s9, s10, s11, s12, s13⟩
                      go_simp
                      with_reducible rfl
                     rotate_left
                     ·simp only [Act.put, sB, i64_w, i32_w]
                      rfl
                     refine take_ (i := 32) (N := some 53) (v := ?_) (a' := ?_) #[true, true, true, true, true, true, true, true, true, true, true, true, true, true, true, true, true, true, true, true, true, true, true, true, true, true, true, true, true, true, true, true, true, false, false, false, false, false, false] rfl rfl (take_ofW HT_.out HW_.out (by kernel_rfl)) (fun _ _ _ h => h) (Or.inl ⟨by rfl, ?_⟩) hHeld ?_ ?_
                     rotate_left
                     ·rintro w' ⟨s0, s1, s2, s3, s4, s5, s6, s7, s8, s9, s10, s11, s12, s13⟩
                      go_simp
                      with_reducible rfl
                     rotate_left
                     ·simp only [Act.put, sB, i64_w, i32_w]
                      rfl
                     refine pure_ (i := 33) (N := some 54) (v := ?_) (a' := ?_) #[true, true, true, true, true, true, true, true, true, true, true, true, true, true, true, true, true, true, true, true, true, true, true, true, true, true, true, true, true, true, true, true, true, true, false, false, false, false, false] rfl rfl (any_of HT_.out (by kernel_rfl)) (fun _ _ _ h => h) (Or.inl ⟨by rfl, ?_⟩) ?_ ?_
                     rotate_left
                     ·intro w'
                      go_simp
                      with_reducible rfl
                     rotate_left
                     ·simp only [Act.put, sB, i64_w, i32_w]
                      rfl
                     refine pure_ (i := 34) (N := some 55) (v := ?_) (a' := ?_) #[true, true, true, true, true, true, true, true, true, true, true, true, true, true, true, true, true, true, true, true, true, true, true, true, true, true, true, true, true, true, true, true, true, true, true, false, false, false, false] rfl rfl (any_of HT_.out (by kernel_rfl)) (fun _ _ _ h => h) (Or.inl ⟨by rfl, ?_⟩) ?_ ?_
                     rotate_left
                     ·intro w'
                      go_simp
                      with_reducible rfl
                     rotate_left
                     ·simp only [Act.put, sB, i64_w, i32_w]
                      rfl
                     refine take_ (i := 35) (N := some 56) (v := ?_) (a' := ?_) #[true, true, true, true, true, true, true, true, true, true, true, true, true, true, true, true, true, true, true, true, true, true, true, true, true, true, true, true, true, true, true, true, true, true, true, true, false, false, false] rfl rfl (take_ofW HT_.out HW_.out (by kernel_rfl)) (fun _ _ _ h => h) (Or.inl ⟨by rfl, ?_⟩) hHeld ?_ ?_
                     rotate_left
                     ·rintro w' ⟨s0, s1, s2, s3, s4, s5, s6, s7, s8, s9, s10, s11, s12, s13⟩
                      go_simp
                      with_reducible rfl
                     rotate_left
                     ·simp only [Act.put, sB, i64_w, i32_w]
                      rfl
                     refine pure_ (i := 36) (N := some 57) (v := ?_) (a' := ?_) #[true, true, true, true, true, true, true, true, true, true, true, true, true, true, true, true, true, true, true, true, true, true, true, true, true, true, true, true, true, true, true, true, true, true, true, true, true, false, false] rfl rfl (any_of HT_.out (by kernel_rfl)) (fun _ _ _ h => h) (Or.inl ⟨by rfl, ?_⟩) ?_ ?_
                     rotate_left
                     ·intro w'
                      go_simp
                      with_reducible rfl
                     rotate_left
                     ·simp only [Act.put, sB, i64_w, i32_w]
                      rfl
                     refine pure_ (i := 37) (N := some 58) (v := ?_) (a' := ?_) #[true, true, true, true, true, true, true, true, true, true, true, true, true, true, true, true, true, true, true, true, true, true, true, true, true, true, true, true, true, true, true, true, true, true, true, true, true, true, false] rfl rfl (any_of HT_.out (by kernel_rfl)) (fun _ _ _ h => h) (Or.inl ⟨by rfl, ?_⟩) ?_ ?_
                     rotate_left
                     ·intro w'
                      go_simp
                      with_reducible rfl
                     rotate_left
                     ·simp only [Act.put, sB, i64_w, i32_w]
                      rfl
                     refine pure_ (i := 38) (N := some 59) (v := ?_) (a' := ?_) #[true, true, true, true, true, true, true, true, true, true, true, true, true, true, true, true, true, true, true, true, true, true, true, true, true, true, true, true, true, true, true, true, true, true, true, true, true, true, true] rfl rfl (any_of HT_.out (by kernel_rfl)) (fun _ _ _ h => h) (Or.inl ⟨by rfl, ?_⟩) ?_ ?_
                     rotate_left
                     ·intro w'
                      go_simp
                      with_reducible rfl
                     rotate_left
                     ·simp only [Act.put, sB, i64_w, i32_w]
                      rfl
                     refine done_ (done_of HT_.out (by kernel_rfl)) ?_
                     try go_wp2
                     go_roundg k2
                     case measure => have := HK1.out; have := HK2.out; omega
                     case rel => exact ⟨(x5_2), (wrap64 (x6_2 + 1)), (by first | rfl | (simp; done) | (simp [*]; done)), (by first | rfl | (simp; done) | (simp [*]; done)), H', ⟨by have := HK1.out; have := HK2.out; omega⟩, ⟨by (with_reducible repeat (first | apply Kd.R_alloc | apply Kd.R_drewN | apply Kd.R_drew)); exact HO_3.out⟩, ⟨by (with_reducible repeat (first | apply Kd.R_alloc | apply Kd.R_drewN | apply Kd.R_drew)); exact HO_4.out⟩, ⟨by repeat (first | (with_reducible first | exact HB.out | apply wa | apply wn | apply wd) | exact HB.out)⟩⟩
                   ·rw [if_neg c22] at H
                    exact absurd H (by simp)
                  ·rw [if_neg c21] at H
                   exact absurd H (by simp)
                 ·rw [if_neg c20] at H
                  exact absurd H (by simp)
                ·rw [if_neg c19] at H
                 exact absurd H (by simp)
               ·rw [if_neg c18] at H
                exact absurd H (by simp)
              ·rw [if_neg c17] at H
               exact absurd H (by simp)
            ·rw [if_neg c13] at H
             have c13b0 : decide ((rd x3_1 x6_2) < ((rd_L7 y268 x6_2).length : Int)) = false := decide_eq_false c13
             clear c13
             have H' := asd H
             clear H
             try go_wp2
             have n0_ := asd (Kd.R_drew HO_3.out)
             have n1_ := asd (Kd.R_drew HO_4.out)
             have n2_ := asd (below_drew1 HB.out)
             clear HO_3
             clear HO_4
             clear HB
             have HO_3 := n0_
             have HO_4 := n1_
             have HB := n2_
             clear n0_ n1_ n2_
             obtain ⟨Ao29, co29, eo29⟩ := Kd.R_slice HO_3.out
             (first | subst eo29 | (injection eo29 with f1_ f2_ f3_; have f4_ := f1_.symm; have f5_ := f3_.symm; clear f1_ f2_ f3_; subst f4_; subst f5_))
             have p275 : 0 ≤ (x6_2 : Int) := of_decide_eq_true (by assumption)
             have q275 : x6_2 < (x3_1.length : Int) := of_decide_eq_true (by assumption)
             obtain ⟨ad275, e275, hx275_0⟩ := Kd.at_int (Kd.R_reads' HO_3.out).2.2 x6_2 p275 q275
             cases e275
             replace p275 := eq_true p275
             replace q275 := eq_true q275
             have p276 : 0 ≤ (x6_2 : Int) := of_decide_eq_true (by assumption)
             have q276 : x6_2 < (y268.length : Int) := of_decide_eq_true (by assumption)
             obtain ⟨ad276, A276_0, c276_0, e276, hx276_0, hl276_0, hi276_0⟩ := at_L7 HR271.out x6_2 p276 q276
             have hw276_0 := hx276_0
             cases e276
             replace hx276_0 := (HB.out.cell (World.block_lt_of_cell? w _ hx276_0)).trans hx276_0
             have HR276_0 := asd hi276_0
             have HC276_0 := asd hl276_0
             clear hi276_0 hl276_0
             replace p276 := eq_true p276
             replace q276 := eq_true q276
             refine start_ (n := 39) (S := fun w' => w'.cell? (ad275.add (x6_2).toNat) = some (.int .i64 (rd x3_1 x6_2)) ∧ w'.cell? (ad276.add (x6_2).toNat) = some (.slice A276_0 (rd_L7 y268 x6_2).length c276_0)) (ds := []) #[false, false, false, false, false, false, false, false, false, false, false, false, false, false, false, false, false, false, false, false, false, false, false, false, false, false, false, false, false, false, false, false, false, false, false, false, false, false, false] (by kernel_rfl) rfl rfl ⟨hx275_0, ((HB.out.cell (World.block_lt_of_cell? w _ hw276_0)).trans hw276_0)⟩ (fun hHeld => ?_); refine with_tabW parcloseref40_Logs.tab8 parcloseref40_Logs.bits8 (fun HT_ HW_ => ?_)
             generalize wr.drew = w28 at HO_3 HO_4 HB HR276_0 hx275_0 hx276_0 hHeld ⊢
             refine pure_ (i := 0) (N := some 21) (v := ?_) (a' := ?_) #[true, false, false, false, false, false, false, false, false, false, false, false, false, false, false, false, false, false, false, false, false, false, false, false, false, false, false, false, false, false, false, false, false, false, false, false, false, false, false] rfl rfl (any_of HT_.out (by kernel_rfl)) (fun _ _ _ h => h) (Or.inl ⟨by rfl, ?_⟩) ?_ ?_
             rotate_left
             ·intro w'
              go_simp
              with_reducible rfl
             rotate_left
             ·simp only [Act.put, sB, i64_w, i32_w]
              rfl
             refine pure_ (i := 1) (N := some 22) (v := ?_) (a' := ?_) #[true, true, false, false, false, false, false, false, false, false, false, false, false, false, false, false, false, false, false, false, false, false, false, false, false, false, false, false, false, false, false, false, false, false, false, false, false, false, false] rfl rfl (any_of HT_.out (by kernel_rfl)) (fun _ _ _ h => h) (Or.inl ⟨by rfl, ?_⟩) ?_ ?_
             rotate_left
             ·intro w'
              go_simp
              with_reducible rfl
             rotate_left
             ·simp only [Act.put, sB, i64_w, i32_w]
              rfl
             refine pure_ (i := 2) (N := some 23) (v := ?_) (a' := ?_) #[true, true, true, false, false, false, false, false, false, false, false, false, false, false, false, false, false, false, false, false, false, false, false, false, false, false, false, false, false, false, false, false, false, false, false, false, false, false, false] rfl rfl (any_of HT_.out (by kernel_rfl)) (fun _ _ _ h => h) (Or.inl ⟨by rfl, ?_⟩) ?_ ?_
             rotate_left
             ·intro w'
              go_simp
              with_reducible rfl
             rotate_left
             ·simp only [Act.put, sB, i64_w, i32_w]
              rfl
             refine pure_ (i := 4) (N := some 25) (v := ?_) (a' := ?_) #[true, true, true, false, true, false, false, false, false, false, false, false, false, false, false, false, false, false, false, false, false, false, false, false, false, false, false, false, false, false, false, false, false, false, false, false, false, false, false] rfl rfl (any_of HT_.out (by kernel_rfl)) (fun _ _ _ h => h) (Or.inl ⟨by rfl, ?_⟩) ?_ ?_
             rotate_left
             ·intro w'
              go_simp
              with_reducible rfl
             rotate_left
             ·simp only [Act.put, sB, i64_w, i32_w]
              rfl
             refine pure_ (i := 5) (N := some 26) (v := ?_) (a' := ?_) #[true, true, true, false, true, true, false, false, false, false, false, false, false, false, false, false, false, false, false, false, false, false, false, false, false, false, false, false, false, false, false, false, false, false, false, false, false, false, false] rfl rfl (any_of HT_.out (by kernel_rfl)) (fun _ _ _ h => h) (Or.inl ⟨by rfl, ?_⟩) ?_ ?_
             rotate_left
             ·intro w'
              go_simp
              with_reducible rfl
             rotate_left
             ·simp only [Act.put, sB, i64_w, i32_w]
              rfl
             refine pure_ (i := 6) (N := some 27) (v := ?_) (a' := ?_) #[true, true, true, false, true, true, true, false, false, false, false, false, false, false, false, false, false, false, false, false, false, false, false, false, false, false, false, false, false, false, false, false, false, false, false, false, false, false, false] rfl rfl (any_of HT_.out (by kernel_rfl)) (fun _ _ _ h => h) (Or.inl ⟨by rfl, ?_⟩) ?_ ?_
             rotate_left
             ·intro w'
              go_simp
              with_reducible rfl
             rotate_left
             ·simp only [Act.put, sB, i64_w, i32_w]
              rfl
             refine take_ (i := 3) (N := some 24) (v := ?_) (a' := ?_) #[true, true, true, true, true, true, true, false, false, false, false, false, false, false, false, false, false, false, false, false, false, false, false, false, false, false, false, false, false, false, false, false, false, false, false, false, false, false, false] rfl rfl (take_ofW HT_.out HW_.out (by kernel_rfl)) (fun _ _ _ h => h) (Or.inl ⟨by rfl, ?_⟩) hHeld ?_ ?_
             rotate_left
             ·rintro w' ⟨s0, s1⟩
              go_simp
              with_reducible rfl
             rotate_left
             ·simp only [Act.put, sB, i64_w, i32_w]
              rfl
             refine take_ (i := 7) (N := some 28) (v := ?_) (a' := ?_) #[true, true, true, true, true, true, true, true, false, false, false, false, false, false, false, false, false, false, false, false, false, false, false, false, false, false, false, false, false, false, false, false, false, false, false, false, false, false, false] rfl rfl (take_ofW HT_.out HW_.out (by kernel_rfl)) (fun _ _ _ h => h) (Or.inl ⟨by rfl, ?_⟩) hHeld ?_ ?_
             rotate_left
             ·rintro w' ⟨s0, s1⟩
              go_simp
              with_reducible rfl
             rotate_left
             ·simp only [Act.put, sB, i64_w, i32_w]
              rfl
             refine pure_ (i := 8) (N := some 29) (v := ?_) (a' := ?_) #[true, true, true, true, true, true, true, true, true, false, false, false, false, false, false, false, false, false, false, false, false, false, false, false, false, false, false, false, false, false, false, false, false, false, false, false, false, false, false] rfl rfl (any_of HT_.out (by kernel_rfl)) (fun _ _ _ h => h) (Or.inl ⟨by rfl, ?_⟩) ?_ ?_
             rotate_left
             ·intro w'
              go_simp
              with_reducible rfl
             rotate_left
             ·simp only [Act.put, sB, i64_w, i32_w]
              rfl
             refine pure_ (i := 9) (N := some 30) (v := ?_) (a' := ?_) #[true, true, true, true, true, true, true, true, true, true, false, false, false, false, false, false, false, false, false, false, false, false, false, false, false, false, false, false, false, false, false, false, false, false, false, false, false, false, false] rfl rfl (any_of HT_.out (by kernel_rfl)) (fun _ _ _ h => h) (Or.inl ⟨by rfl, ?_⟩) ?_ ?_
             rotate_left
             ·intro w'
              go_simp
              with_reducible rfl
             rotate_left
             ·simp only [Act.put, sB, i64_w, i32_w]
              rfl
             refine pure_ (i := 10) (N := some 31) (v := ?_) (a' := ?_) #[true, true, true, true, true, true, true, true, true, true, true, false, false, false, false, false, false, false, false, false, false, false, false, false, false, false, false, false, false, false, false, false, false, false, false, false, false, false, false] rfl rfl (any_of HT_.out (by kernel_rfl)) (fun _ _ _ h => h) (Or.inl ⟨by rfl, ?_⟩) ?_ ?_
             rotate_left
             ·intro w'
              go_simp
              with_reducible rfl
             rotate_left
             ·simp only [Act.put, sB, i64_w, i32_w]
              rfl
             refine pure_ (i := 11) (N := some 32) (v := undef) (a' := ?_) #[true, true, true, true, true, true, true, true, true, true, true, true, false, false, false, false, false, false, false, false, false, false, false, false, false, false, false, false, false, false, false, false, false, false, false, false, false, false, false] rfl rfl (any_of HT_.out (by kernel_rfl)) (fun _ _ _ h => h) (Or.inr ⟨by rfl, rfl⟩) ?_ ?_
             rotate_left
             ·simp only [Act.put, sB, i64_w, i32_w]
              rfl
             refine pure_ (i := 12) (N := some 33) (v := undef) (a' := ?_) #[true, true, true, true, true, true, true, true, true, true, true, true, true, false, false, false, false, false, false, false, false, false, false, false, false, false, false, false, false, false, false, false, false, false, false, false, false, false, false] rfl rfl (any_of HT_.out (by kernel_rfl)) (fun _ _ _ h => h) (Or.inr ⟨by rfl, rfl⟩) ?_ ?_
             rotate_left
             ·simp only [Act.put, sB, i64_w, i32_w]
              rfl
             refine pure_ (i := 13) (N := some 34) (v := undef) (a' := ?_) #[true, true, true, true, true, true, true, true, true, true, true, true, true, true, false, false, false, false, false, false, false, false, false, false, false, false, false, false, false, false, false, false, false, false, false, false, false, false, false] rfl rfl (any_of HT_.out (by kernel_rfl)) (fun _ _ _ h => h) (Or.inr ⟨by rfl, rfl⟩) ?_ ?_
             rotate_left
             ·simp only [Act.put, sB, i64_w, i32_w]
              rfl
             refine pure_ (i := 14) (N := some 35) (v := undef) (a' := ?_) #[true, true, true, true, true, true, true, true, true, true, true, true, true, true, true, false, false, false, false, false, false, false, false, false, false, false, false, false, false, false, false, false, false, false, false, false, false, false, false] rfl rfl (any_of HT_.out (by kernel_rfl)) (fun _ _ _ h => h) (Or.inr ⟨by rfl, rfl⟩) ?_ ?_
             rotate_left
             ·simp only [Act.put, sB, i64_w, i32_w]
              rfl
             refine pure_ (i := 15) (N := some 36) (v := undef) (a' := ?_) #[true, true, true, true, true, true, true, true, true, true, true, true, true, true, true, true, false, false, false, false, false, false, false, false, false, false, false, false, false, false, false, false, false, false, false, false, false, false, false] rfl rfl (any_of HT_.out (by kernel_rfl)) (fun _ _ _ h => h) (Or.inr ⟨by rfl, rfl⟩) ?_ ?_
             rotate_left
             ·simp only [Act.put, sB, i64_w, i32_w]
              rfl
             refine pure_ (i := 16) (N := some 37) (v := undef) (a' := ?_) #[true, true, true, true, true, true, true, true, true, true, true, true, true, true, true, true, true, false, false, false, false, false, false, false, false, false, false, false, false, false, false, false, false, false, false, false, false, false, false] rfl rfl (any_of HT_.out (by kernel_rfl)) (fun _ _ _ h => h) (Or.inr ⟨by rfl, rfl⟩) ?_ ?_
             rotate_left
             ·simp only [Act.put, sB, i64_w, i32_w]
              rfl
             refine pure_ (i := 17) (N := some 38) (v := undef) (a' := ?_) #[true, true, true, true, true, true, true, true, true, true, true, true, true, true, true, true, true, true, false, false, false, false, false, false, false, false, false, false, false, false, false, false, false, false, false, false, false, false, false] rfl rfl (any_of HT_.out (by kernel_rfl)) (fun _ _ _ h => h) (Or.inr ⟨by rfl, rfl⟩) ?_ ?_
             rotate_left
             ·simp only [Act.put, sB, i64_w, i32_w]
              rfl
             refine pure_ (i := 18) (N := some 39) (v := undef) (a' := ?_) #[true, true, true, true, true, true, true, true, true, true, true, true, true, true, true, true, true, true, true, false, false, false, false, false, false, false, false, false, false, false, false, false, false, false, false, false, false, false, false] rfl rfl (any_of HT_.out (by kernel_rfl)) (fun _ _ _ h => h) (Or.inr ⟨by rfl, rfl⟩) ?_ ?_
             rotate_left
             ·simp only [Act.put, sB, i64_w, i32_w]
              rfl
             refine pure_ (i := 19) (N := some 40) (v := undef) (a' := ?_) #[true, true, true, true, true, true, true, true, true, true, true, true, true, true, true, true, true, true, true, true, false, false, false, false, false, false, false, false, false, false, false, false, false, false, false, false, false, false, false] rfl rfl (any_of HT_.out (by kernel_rfl)) (fun _ _ _ h => h) (Or.inr ⟨by rfl, rfl⟩) ?_ ?_
             rotate_left
             ·simp only [Act.put, sB, i64_w, i32_w]
              rfl
             refine pure_ (i := 20) (N := some 41) (v := undef) (a' := ?_) #[true, true, true, true, true, true, true, true, true, true, true, true, true, true, true, true, true, true, true, true, true, false, false, false, false, false, false, false, false, false, false, false, false, false, false, false, false, false, false] rfl rfl (any_of HT_.out (by kernel_rfl)) (fun _ _ _ h => h) (Or.inr ⟨by rfl, rfl⟩) ?_ ?_
             rotate_left
             ·simp only [Act.put, sB, i64_w, i32_w]
              rfl
             refine pure_ (i := 21) (N := some 42) (v := undef) (a' := ?_) #[true, true, true, true, true, true, true, true, true, true, true, true, true, true, true, true, true, true, true, true, true, true, false, false, false, false, false, false, false, false, false, false, false, false, false, false, false, false, false] rfl rfl (any_of HT_.out (by kernel_rfl)) (fun _ _ _ h => h) (Or.inr ⟨by rfl, rfl⟩) ?_ ?_
             rotate_left
             ·simp only [Act.put, sB, i64_w, i32_w]
              rfl
             refine pure_ (i := 22) (N := some 43) (v := undef) (a' := ?_) #[true, true, true, true, true, true, true, true, true, true, true, true, true, true, true, true, true, true, true, true, true, true, true, false, false, false, false, false, false, false, false, false, false, false, false, false, false, false, false] rfl rfl (any_of HT_.out (by kernel_rfl)) (fun _ _ _ h => h) (Or.inr ⟨by rfl, rfl⟩) ?_ ?_
             rotate_left
             ·simp only [Act.put, sB, i64_w, i32_w]
              rfl
             refine pure_ (i := 23) (N := some 44) (v := undef) (a' := ?_) #[true, true, true, true, true, true, true, true, true, true, true, true, true, true, true, true, true, true, true, true, true, true, true, true, false, false, false, false, false, false, false, false, false, false, false, false, false, false, false] rfl rfl (any_of HT_.out (by kernel_rfl)) (fun _ _ _ h => h) (Or.inr ⟨by rfl, rfl⟩) ?_ ?_
             rotate_left
             ·simp only [Act.put, sB, i64_w, i32_w]
              rfl
             refine pure_ (i := 24) (N := some 45) (v := undef) (a' := ?_) #[true, true, true, true, true, true, true, true, true, true, true, true, true, true, true, true, true, true, true, true, true, true, true, true, true, false, false, false, false, false, false, false, false, false, false, false, false, false, false] rfl rfl (any_of HT_.out (by kernel_rfl)) (fun _ _ _ h => h) (Or.inr ⟨by rfl, rfl⟩) ?_ ?_
             rotate_left
             ·simp only [Act.put, sB, i64_w, i32_w]
              rfl
             refine pure_ (i := 25) (N := some 46) (v := undef) (a' := ?_) #[true, true, true, true, true, true, true, true, true, true, true, true, true, true, true, true, true, true, true, true, true, true, true, true, true, true, false, false, false, false, false, false, false, false, false, false, false, false, false] rfl rfl (any_of HT_.out (by kernel_rfl)) (fun _ _ _ h => h) (Or.inr ⟨by rfl, rfl⟩) ?_ ?_
             rotate_left
             ·simp only [Act.put, sB, i64_w, i32_w]
              rfl
             refine pure_ (i := 26) (N := some 47) (v := undef) (a' := ?_) #[true, true, true, true, true, true, true, true, true, true, true, true, true, true, true, true, true, true, true, true, true, true, true, true, true, true, true, false, false, false, false, false, false, false, false, false, false, false, false] rfl rfl (any_of HT_.out (by kernel_rfl)) (fun _ _ _ h => h) (Or.inr ⟨by rfl, rfl⟩) ?_ ?_
             rotate_left
             ·simp only [Act.put, sB, i64_w, i32_w]
              rfl
             refine pure_ (i := 27) (N := some 48) (v := undef) (a' := ?_) #[true, true, true, true, true, true, true, true, true, true, true, true, true, true, true, true, true, true, true, true, true, true, true, true, true, true, true, true, false, false, false, false, false, false, false, false, false, false, false] rfl rfl (any_of HT_.out (by kernel_rfl)) (fun _ _ _ h => h) (Or.inr ⟨by rfl, rfl⟩) ?_ ?_
             rotate_left
             ·simp only [Act.put, sB, i64_w, i32_w]
              rfl
             refine pure_ (i := 28) (N := some 49) (v := undef) (a' := ?_) #[true, true, true, true, true, true, true, true, true, true, true, true, true, true, true, true, true, true, true, true, true, true, true, true, true, true, true, true, true, false, false, false, false, false, false, false, false, false, false] rfl rfl (any_of HT_.out (by kernel_rfl)) (fun _ _ _ h => h) (Or.inr ⟨by rfl, rfl⟩) ?_ ?_
             rotate_left
             ·simp only [Act.put, sB, i64_w, i32_w]
              rfl
             refine pure_ (i := 29) (N := some 50) (v := undef) (a' := ?_) #[true, true, true, true, true, true, true, true, true, true, true, true, true, true, true, true, true, true, true, true, true, true, true, true, true, true, true, true, true, true, false, false, false, false, false, false, false, false, false] rfl rfl (any_of HT_.out (by kernel_rfl)) (fun _ _ _ h => h) (Or.inr ⟨by rfl, rfl⟩) ?_ ?_
             rotate_left
             ·simp only [Act.put, sB, i64_w, i32_w]
              rfl
             refine pure_ (i := 30) (N := some 51) (v := undef) (a' := ?_) #[true, true, true, true, true, true, true, true, true, true, true, true, true, true, true, true, true, true, true, true, true, true, true, true, true, true, true, true, true, true, true, false, false, false, false, false, false, false, false] rfl rfl (any_of HT_.out (by kernel_rfl)) (fun _ _ _ h => h) (Or.inr ⟨by rfl, rfl⟩) ?_ ?_
             rotate_left
             ·simp only [Act.put, sB, i64_w, i32_w]
              rfl
             refine pure_ (i := 31) (N := some 52) (v := undef) (a' := ?_) #[true, true, true, true, true, true, true, true, true, true, true, true, true, true, true, true, true, true, true, true, true, true, true, true, true, true, true, true, true, true, true, true, false, false, false, false, false, false, false] rfl rfl (any_of HT_.out (by kernel_rfl)) (fun _ _ _ h => h) (Or.inr ⟨by rfl, rfl⟩) ?_ ?_
             rotate_left
             ·simp only [Act.put, sB, i64_w, i32_w]
              rfl
             refine pure_ (i := 32) (N := some 53) (v := undef) (a' := ?_) #[true, true, true, true, true, true, true, true, true, true, true, true, true, true, true, true, true, true, true, true, true, true, true, true, true, true, true, true, true, true, true, true, true, false, false, false, false, false, false] rfl rfl (any_of HT_.out (by kernel_rfl)) (fun _ _ _ h => h) (Or.inr ⟨by rfl, rfl⟩) ?_ ?_
             rotate_left
             ·simp only [Act.put, sB, i64_w, i32_w]
              rfl
             refine pure_ (i := 33) (N := some 54) (v := undef) (a' := ?_) #[true, true, true, true, true, true, true, true, true, true, true, true, true, true, true, true, true, true, true, true, true, true, true, true, true, true, true, true, true, true, true, true, true, true, false, false, false, false, false] rfl rfl (any_of HT_.out (by kernel_rfl)) (fun _ _ _ h => h) (Or.inr ⟨by rfl, rfl⟩) ?_ ?_
             rotate_left
             ·simp only [Act.put, sB, i64_w, i32_w]
              rfl
             refine pure_ (i := 34) (N := some 55) (v := undef) (a' := ?_) #[true, true, true, true, true, true, true, true, true, true, true, true, true, true, true, true, true, true, true, true, true, true, true, true, true, true, true, true, true, true, true, true, true, true, true, false, false, false, false] rfl rfl (any_of HT_.out (by kernel_rfl)) (fun _ _ _ h => h) (Or.inr ⟨by rfl, rfl⟩) ?_ ?_
             rotate_left
             ·simp only [Act.put, sB, i64_w, i32_w]
              rfl
             refine pure_ (i := 35) (N := some 56) (v := undef) (a' := ?_) #[true, true, true, true, true, true, true, true, true, true, true, true, true, true, true, true, true, true, true, true, true, true, true, true, true, true, true, true, true, true, true, true, true, true, true, true, false, false, false] rfl rfl (any_of HT_.out (by kernel_rfl)) (fun _ _ _ h => h) (Or.inr ⟨by rfl, rfl⟩) ?_ ?_
             rotate_left
             ·simp only [Act.put, sB, i64_w, i32_w]
              rfl
             refine pure_ (i := 36) (N := some 57) (v := undef) (a' := ?_) #[true, true, true, true, true, true, true, true, true, true, true, true, true, true, true, true, true, true, true, true, true, true, true, true, true, true, true, true, true, true, true, true, true, true, true, true, true, false, false] rfl rfl (any_of HT_.out (by kernel_rfl)) (fun _ _ _ h => h) (Or.inr ⟨by rfl, rfl⟩) ?_ ?_
             rotate_left
             ·simp only [Act.put, sB, i64_w, i32_w]
              rfl
             refine pure_ (i := 37) (N := some 58) (v := undef) (a' := ?_) #[true, true, true, true, true, true, true, true, true, true, true, true, true, true, true, true, true, true, true, true, true, true, true, true, true, true, true, true, true, true, true, true, true, true, true, true, true, true, false] rfl rfl (any_of HT_.out (by kernel_rfl)) (fun _ _ _ h => h) (Or.inr ⟨by rfl, rfl⟩) ?_ ?_
             rotate_left
             ·simp only [Act.put, sB, i64_w, i32_w]
              rfl
             refine pure_ (i := 38) (N := some 59) (v := ?_) (a' := ?_) #[true, true, true, true, true, true, true, true, true, true, true, true, true, true, true, true, true, true, true, true, true, true, true, true, true, true, true, true, true, true, true, true, true, true, true, true, true, true, true] rfl rfl (any_of HT_.out (by kernel_rfl)) (fun _ _ _ h => h) (Or.inl ⟨by rfl, ?_⟩) ?_ ?_
             rotate_left
             ·intro w'
              go_simp
              with_reducible rfl
             rotate_left
             ·simp only [Act.put, sB, i64_w, i32_w]
              rfl
             refine done_ (done_of HT_.out (by kernel_rfl)) ?_
             try go_wp2
             go_roundg k2
             case measure => have := HK1.out; have := HK2.out; omega
             case rel => exact ⟨(x5_2), (wrap64 (x6_2 + 1)), (by first | rfl | (simp; done) | (simp [*]; done)), (by first | rfl | (simp; done) | (simp [*]; done)), H', ⟨by have := HK1.out; have := HK2.out; omega⟩, ⟨by (with_reducible repeat (first | apply Kd.R_alloc | apply Kd.R_drewN | apply Kd.R_drew)); exact HO_3.out⟩, ⟨by (with_reducible repeat (first | apply Kd.R_alloc | apply Kd.R_drewN | apply Kd.R_drew)); exact HO_4.out⟩, ⟨by repeat (first | (with_reducible first | exact HB.out | apply wa | apply wn | apply wd) | exact HB.out)⟩⟩
           ·rw [if_neg c12] at H
            exact absurd H (by simp)
          ·rw [if_neg c11] at H
           exact absurd H (by simp)
         ·rw [if_neg c10] at H
          have c10b0 : decide (x6_2 < (y268.length : Int)) = false := decide_eq_false c10
          clear c10
          by_cases c30 : x5_2 < 0
          ·rw [if_pos c30] at H
           have c30b0 : decide (x5_2 < 0) = true := decide_eq_true c30
           clear c30
           obtain rfl := Option.some.inj H
           go_wp2
           go_ret
           exact ⟨_, by first | rfl | (simp [errW_none, errW_some] <;> rfl) | (simp only [← hji2]; first | rfl | (simp [errW_none, errW_some] <;> rfl)) | (simp [*, errW_none, errW_some] <;> rfl), by (with_reducible repeat (first | apply Kd.R_alloc | apply Kd.R_drewN | apply Kd.R_drew)); exact HO_4.out, by repeat (first | (with_reducible first | exact HB.out | apply wa | apply wn | apply wd) | exact HB.out)⟩
          ·rw [if_neg c30] at H
           have c30b0 : decide (x5_2 < 0) = false := decide_eq_false c30
           clear c30
           by_cases c31 : 0 ≤ x5_2
           ·rw [if_pos c31] at H
            have c31b0 : decide (0 ≤ x5_2) = true := decide_eq_true c31
            clear c31
            by_cases c32 : x5_2 < (y268.length : Int)
            ·rw [if_pos c32] at H
             have c32b0 : decide (x5_2 < (y268.length : Int)) = true := decide_eq_true c32
             clear c32
             by_cases c33 : x5_2 < (x3_1.length : Int)
             ·rw [if_pos c33] at H
              have c33b0 : decide (x5_2 < (x3_1.length : Int)) = true := decide_eq_true c33
              clear c33
              by_cases c34 : 0 ≤ (rd x3_1 x5_2)
              ·rw [if_pos c34] at H
               have c34b0 : decide (0 ≤ (rd x3_1 x5_2)) = true := decide_eq_true c34
               clear c34
               by_cases c35 : (rd x3_1 x5_2) < ((rd_L7 y268 x5_2).length : Int)
               ·rw [if_pos c35] at H
                have c35b0 : decide ((rd x3_1 x5_2) < ((rd_L7 y268 x5_2).length : Int)) = true := decide_eq_true c35
                clear c35
                by_cases c36 : x4_1.length < 3518437208883
                ·rw [if_pos c36] at H
                 have LMc36 := asd c36
                 clear c36
                 obtain ⟨y286, hy286⟩ : ∃ y_ : List (S117), y_ = (x4_1 ++ [(⟨x5_2, (⟨(rd_T64 (rd_L7 y268 x5_2) (rd x3_1 x5_2)).f0, (rd_T64 (rd_L7 y268 x5_2) (rd x3_1 x5_2)).f1, (rd_T64 (rd_L7 y268 x5_2) (rd x3_1 x5_2)).f2, (rd_T64 (rd_L7 y268 x5_2) (rd x3_1 x5_2)).f3⟩ : S64)⟩ : S117)]) := ⟨_, rfl⟩
                 replace H : (parcloseref40_Logs.l0 k2 y268 (x3_1.set (x5_2 : Int).toNat (wrap64 ((rd x3_1 x5_2) + 1))) y286) = some r := by first | (rw [hy286]; with_reducible exact H) | (have H2_ := (Option.bind_some _ _).symm.trans H; rw [hy286]; with_reducible exact H2_) | (have H2_ := (Option.bind_some _ _).symm.trans H; with_reducible exact H2_) | with_reducible exact H | (rw [hy286]; exact H) | exact H
                 have Ny286 := asd hy286
                 clear hy286
                 obtain ⟨y290, hy290⟩ : ∃ y_ : List Int, y_ = (x3_1.set (x5_2 : Int).toNat (wrap64 ((rd x3_1 x5_2) + 1))) := ⟨_, rfl⟩
                 replace H : (parcloseref40_Logs.l0 k2 y268 y290 y286) = some r := by first | (rw [hy290]; with_reducible exact H) | (have H2_ := (Option.bind_some _ _).symm.trans H; rw [hy290]; with_reducible exact H2_) | (have H2_ := (Option.bind_some _ _).symm.trans H; with_reducible exact H2_) | with_reducible exact H | (rw [hy290]; exact H) | exact H
                 have Ny290 := asd hy290
                 clear hy290
                 have H' := asd H
                 clear H
                 try go_wp2
                 have n0_ := asd (Kd.R_drew HO_3.out)
                 have n1_ := asd (Kd.R_drew HO_4.out)
                 have n2_ := asd (below_drew1 HB.out)
                 clear HO_3
                 clear HO_4
                 clear HB
                 have HO_3 := n0_
                 have HO_4 := n1_
                 have HB := n2_
                 clear n0_ n1_ n2_
                 have p283 : 0 ≤ (x5_2 : Int) := of_decide_eq_true (by assumption)
                 have q283 : x5_2 < (y268.length : Int) := of_decide_eq_true (by assumption)
                 obtain ⟨ad283, A283_0, c283_0, e283, hx283_0, hl283_0, hi283_0⟩ := at_L7 HR271.out x5_2 p283 q283
                 have hw283_0 := hx283_0
                 cases e283
                 replace hx283_0 := (HB.out.cell (World.block_lt_of_cell? w _ hx283_0)).trans hx283_0
                 have HR283_0 := asd hi283_0
                 have HC283_0 := asd hl283_0
                 clear hi283_0 hl283_0
                 replace p283 := eq_true p283
                 replace q283 := eq_true q283
                 obtain ⟨Ao39, co39, eo39⟩ := Kd.R_slice HO_3.out
                 (first | subst eo39 | (injection eo39 with f1_ f2_ f3_; have f4_ := f1_.symm; have f5_ := f3_.symm; clear f1_ f2_ f3_; subst f4_; subst f5_))
                 have p284 : 0 ≤ (x5_2 : Int) := of_decide_eq_true (by assumption)
                 have q284 : x5_2 < (x3_1.length : Int) := of_decide_eq_true (by assumption)
                 obtain ⟨ad284, e284, hx284_0⟩ := Kd.at_int (Kd.R_reads' HO_3.out).2.2 x5_2 p284 q284
                 cases e284
                 replace p284 := eq_true p284
                 replace q284 := eq_true q284
                 have p285 : 0 ≤ ((rd x3_1 x5_2) : Int) := of_decide_eq_true (by assumption)
                 have q285 : (rd x3_1 x5_2) < ((rd_L7 y268 x5_2).length : Int) := of_decide_eq_true (by assumption)
                 obtain ⟨ad285, e285, hx285_0, hx285_1, hx285_2, hx285_3⟩ := at_T64 HR283_0.out (rd x3_1 x5_2) p285 q285
                 have hw285_3 := hx285_3
                 have hw285_2 := hx285_2
                 have hw285_1 := hx285_1
                 have hw285_0 := hx285_0
                 cases e285
                 replace hx285_0 := (HB.out.cell (World.block_lt_of_cell? w _ hx285_0)).trans hx285_0
                 replace hx285_1 := (HB.out.cell (World.block_lt_of_cell? w _ hx285_1)).trans hx285_1
                 replace hx285_2 := (HB.out.cell (World.block_lt_of_cell? w _ hx285_2)).trans hx285_2
                 replace hx285_3 := (HB.out.cell (World.block_lt_of_cell? w _ hx285_3)).trans hx285_3
                 replace p285 := eq_true p285
                 replace q285 := eq_true q285
                 refine start_ (n := 16) (S := fun w' => w'.cell? (ad283.add (x5_2).toNat) = some (.slice (some ad285) (rd_L7 y268 x5_2).length c283_0) ∧ w'.cell? (ad284.add (x5_2).toNat) = some (.int .i64 (rd x3_1 x5_2)) ∧ w'.cell? (ad285.add (((rd x3_1 x5_2)).toNat * 4)) = some (.int .i64 ((rd_T64 (rd_L7 y268 x5_2) (rd x3_1 x5_2)).f0)) ∧ w'.cell? ⟨(ad285.add (((rd x3_1 x5_2)).toNat * 4)).block, (ad285.add (((rd x3_1 x5_2)).toNat * 4)).off + 1, none⟩ = some (.int .i64 ((rd_T64 (rd_L7 y268 x5_2) (rd x3_1 x5_2)).f1)) ∧ w'.cell? ⟨(ad285.add (((rd x3_1 x5_2)).toNat * 4)).block, (ad285.add (((rd x3_1 x5_2)).toNat * 4)).off + 2, none⟩ = some (.int .i64 ((rd_T64 (rd_L7 y268 x5_2) (rd x3_1 x5_2)).f2)) ∧ w'.cell? ⟨(ad285.add (((rd x3_1 x5_2)).toNat * 4)).block, (ad285.add (((rd x3_1 x5_2)).toNat * 4)).off + 3, none⟩ = some (.int .i64 ((rd_T64 (rd_L7 y268 x5_2) (rd x3_1 x5_2)).f3))) (ds := [13, 14]) #[false, false, false, false, false, false, false, false, false, false, false, false, false, false, false, false] (by kernel_rfl) rfl rfl ⟨((HB.out.cell (World.block_lt_of_cell? w _ hw283_0)).trans hw283_0), hx284_0, ((HB.out.cell (World.block_lt_of_cell? w _ hw285_0)).trans hw285_0), ((HB.out.cell (World.block_lt_of_cell? w _ hw285_1)).trans hw285_1), ((HB.out.cell (World.block_lt_of_cell? w _ hw285_2)).trans hw285_2), ((HB.out.cell (World.block_lt_of_cell? w _ hw285_3)).trans hw285_3)⟩ (fun hHeld => ?_); refine with_tabW parcloseref40_Logs.tab12 parcloseref40_Logs.bits12 (fun HT_ HW_ => ?_)
                 generalize wr.drew = w38 at HO_3 HO_4 HB HR283_0 hx283_0 hx284_0 hx285_0 hx285_1 hx285_2 hx285_3 hHeld ⊢
                 refine pure_ (i := 0) (N := some 64) (v := ?_) (a' := ?_) #[true, false, false, false, false, false, false, false, false, false, false, false, false, false, false, false] rfl rfl (any_of HT_.out (by kernel_rfl)) (fun _ _ _ h => h) (Or.inl ⟨by rfl, ?_⟩) ?_ ?_
                 rotate_left
                 ·intro w'
                  go_simp
                  with_reducible rfl
                 rotate_left
                 ·simp only [Act.put, sB, i64_w, i32_w]
                  rfl
                 refine pure_ (i := 1) (N := some 65) (v := ?_) (a' := ?_) #[true, true, false, false, false, false, false, false, false, false, false, false, false, false, false, false] rfl rfl (any_of HT_.out (by kernel_rfl)) (fun _ _ _ h => h) (Or.inl ⟨by rfl, ?_⟩) ?_ ?_
                 rotate_left
                 ·intro w'
                  go_simp
                  with_reducible rfl
                 rotate_left
                 ·simp only [Act.put, sB, i64_w, i32_w]
                  rfl
                 refine pure_ (i := 2) (N := some 66) (v := ?_) (a' := ?_) #[true, true, true, false, false, false, false, false, false, false, false, false, false, false, false, false] rfl rfl (any_of HT_.out (by kernel_rfl)) (fun _ _ _ h => h) (Or.inl ⟨by rfl, ?_⟩) ?_ ?_
                 rotate_left
                 ·intro w'
                  go_simp
                  with_reducible rfl
                 rotate_left
                 ·simp only [Act.put, sB, i64_w, i32_w]
                  rfl
                 refine pure_ (i := 3) (N := some 67) (v := ?_) (a' := ?_) #[true, true, true, true, false, false, false, false, false, false, false, false, false, false, false, false] rfl rfl (any_of HT_.out (by kernel_rfl)) (fun _ _ _ h => h) (Or.inl ⟨by rfl, ?_⟩) ?_ ?_
                 rotate_left
                 ·intro w'
                  go_simp
                  with_reducible rfl
                 rotate_left
                 ·simp only [Act.put, sB, i64_w, i32_w]
                  rfl
                 refine pure_ (i := 4) (N := some 68) (v := ?_) (a' := ?_) #[true, true, true, true, true, false, false, false, false, false, false, false, false, false, false, false] rfl rfl (any_of HT_.out (by kernel_rfl)) (fun _ _ _ h => h) (Or.inl ⟨by rfl, ?_⟩) ?_ ?_
                 rotate_left
                 ·intro w'
                  go_simp
                  with_reducible rfl
                 rotate_left
                 ·simp only [Act.put, sB, i64_w, i32_w]
                  rfl
                 refine pure_ (i := 6) (N := some 70) (v := ?_) (a' := ?_) #[true, true, true, true, true, false, true, false, false, false, false, false, false, false, false, false] rfl rfl (any_of HT_.out (by kernel_rfl)) (fun _ _ _ h => h) (Or.inl ⟨by rfl, ?_⟩) ?_ ?_
                 rotate_left
                 ·intro w'
                  go_simp
                  with_reducible rfl
                 rotate_left
                 ·simp only [Act.put, sB, i64_w, i32_w]
                  rfl
                 refine pure_ (i := 7) (N := some 71) (v := ?_) (a' := ?_) #[true, true, true, true, true, false, true, true, false, false, false, false, false, false, false, false] rfl rfl (any_of HT_.out (by kernel_rfl)) (fun _ _ _ h => h) (Or.inl ⟨by rfl, ?_⟩) ?_ ?_
                 rotate_left
                 ·intro w'
                  go_simp
                  with_reducible rfl
                 rotate_left
                 ·simp only [Act.put, sB, i64_w, i32_w]
                  rfl
                 refine pure_ (i := 8) (N := some 72) (v := ?_) (a' := ?_) #[true, true, true, true, true, false, true, true, true, false, false, false, false, false, false, false] rfl rfl (any_of HT_.out (by kernel_rfl)) (fun _ _ _ h => h) (Or.inl ⟨by rfl, ?_⟩) ?_ ?_
                 rotate_left
                 ·intro w'
                  go_simp
                  with_reducible rfl
                 rotate_left
                 ·simp only [Act.put, sB, i64_w, i32_w]
                  rfl
                 refine take_ (i := 5) (N := some 69) (v := ?_) (a' := ?_) #[true, true, true, true, true, true, true, true, true, false, false, false, false, false, false, false] rfl rfl (take_ofW HT_.out HW_.out (by kernel_rfl)) (fun _ _ _ h => h) (Or.inl ⟨by rfl, ?_⟩) hHeld ?_ ?_
                 rotate_left
                 ·rintro w' ⟨s0, s1, s2, s3, s4, s5⟩
                  go_simp
                  with_reducible rfl
                 rotate_left
                 ·simp only [Act.put, sB, i64_w, i32_w]
                  rfl
                 refine take_ (i := 9) (N := some 73) (v := ?_) (a' := ?_) #[true, true, true, true, true, true, true, true, true, true, false, false, false, false, false, false] rfl rfl (take_ofW HT_.out HW_.out (by kernel_rfl)) (fun _ _ _ h => h) (Or.inl ⟨by rfl, ?_⟩) hHeld ?_ ?_
                 rotate_left
                 ·rintro w' ⟨s0, s1, s2, s3, s4, s5⟩
                  go_simp
                  with_reducible rfl
                 rotate_left
                 ·simp only [Act.put, sB, i64_w, i32_w]
                  rfl
                 refine pure_ (i := 10) (N := some 74) (v := ?_) (a' := ?_) #[true, true, true, true, true, true, true, true, true, true, true, false, false, false, false, false] rfl rfl (any_of HT_.out (by kernel_rfl)) (fun _ _ _ h => h) (Or.inl ⟨by rfl, ?_⟩) ?_ ?_
                 rotate_left
                 ·intro w'
                  go_simp
                  with_reducible rfl
                 rotate_left
                 ·simp only [Act.put, sB, i64_w, i32_w]
                  rfl
                 refine take_ (i := 11) (N := some 75) (v := ?_) (a' := ?_) #[true, true, true, true, true, true, true, true, true, true, true, true, false, false, false, false] rfl rfl (take_ofW HT_.out HW_.out (by kernel_rfl)) (fun _ _ _ h => h) (Or.inl ⟨by rfl, ?_⟩) hHeld ?_ ?_
                 rotate_left
                 ·rintro w' ⟨s0, s1, s2, s3, s4, s5⟩
                  go_simp
                  with_reducible rfl
                 rotate_left
                 ·simp only [Act.put, sB, i64_w, i32_w]
                  rfl
                 refine pure_ (i := 12) (N := some 76) (v := ?_) (a' := ?_) #[true, true, true, true, true, true, true, true, true, true, true, true, true, false, false, false] rfl rfl (any_of HT_.out (by kernel_rfl)) (fun _ _ _ h => h) (Or.inl ⟨by rfl, ?_⟩) ?_ ?_
                 rotate_left
                 ·intro w'
                  go_simp
                  with_reducible rfl
                 rotate_left
                 ·simp only [Act.put, sB, i64_w, i32_w]
                  rfl
                 refine last_ (i := 13) (N := some 77) #[true, true, true, true, true, true, true, true, true, true, true, true, true, true, false, false] rfl rfl (one_of HT_.out (by kernel_rfl)) (by decide) (fun K hK => ?_)
                 refine value_ (w1 := ?_) (v := ?_) (by rfl) rfl ?_ ?_
                 rotate_left 2
                 ·go_simp
                  constructor
                  ·rfl
                  ·rfl
                 refine hK.out _ _ ?_
                 clear hK K
                 refine norm_ (a' := ?_) ?_ ?_
                 rotate_left
                 ·show Act.put _ (some 77) _ = _
                  simp only [Act.put, sB, i64_w, i32_w]
                  rfl
                 refine last_ (i := 14) (N := some 78) #[true, true, true, true, true, true, true, true, true, true, true, true, true, true, true, false] rfl rfl (one_of HT_.out (by kernel_rfl)) (by decide) (fun K hK => ?_)
                 refine Kd.R_append_step k117 (w0 := w) w.heap.size (by rfl) (.tmp 64) (.tmp 77) 60 117 (.agg #[(.int .i64 0), (.int .i64 0), (.int .i64 0), (.int .i64 0), (.int .i64 0)]) 40 rfl Try.underlying60 info117 rfl (by decide) (by omega) u4 x4_1 (⟨x5_2, (⟨(rd_T64 (rd_L7 y268 x5_2) (rd x3_1 x5_2)).f0, (rd_T64 (rd_L7 y268 x5_2) (rd x3_1 x5_2)).f1, (rd_T64 (rd_L7 y268 x5_2) (rd x3_1 x5_2)).f2, (rd_T64 (rd_L7 y268 x5_2) (rd x3_1 x5_2)).f3⟩ : S64)⟩ : S117) [.int .i64 x5_2, .int .i64 ((rd_T64 (rd_L7 y268 x5_2) (rd x3_1 x5_2)).f0), .int .i64 ((rd_T64 (rd_L7 y268 x5_2) (rd x3_1 x5_2)).f1), .int .i64 ((rd_T64 (rd_L7 y268 x5_2) (rd x3_1 x5_2)).f2), .int .i64 ((rd_T64 (rd_L7 y268 x5_2) (rd x3_1 x5_2)).f3)] (fun _ => True) (fun _ => False) rfl rfl ?aP (fun _ hk => hk.elim) ?aF ?aO ?aB ?aS ?aL ?_
                 (case aP => exact k117_mkM _ _ _ (⟨x5_2, (⟨(rd_T64 (rd_L7 y268 x5_2) (rd x3_1 x5_2)).f0, (rd_T64 (rd_L7 y268 x5_2) (rd x3_1 x5_2)).f1, (rd_T64 (rd_L7 y268 x5_2) (rd x3_1 x5_2)).f2, (rd_T64 (rd_L7 y268 x5_2) (rd x3_1 x5_2)).f3⟩ : S64)⟩ : S117))
                 (case aB => exact (by repeat (first | (with_reducible first | exact HB.out | apply wa | apply wn | apply wd) | exact HB.out)))
                 (case aF => exact (fun _ _ => trivial))
                 (case aO => exact (by (with_reducible repeat (first | apply Kd.R_alloc | apply Kd.R_drewN | apply Kd.R_drew)); exact HO_4.out))
                 (case aS => exact (below_size (by repeat (first | (with_reducible first | exact HB.out | apply wa | apply wn | apply wd) | exact HB.out))))
                 (case aL => have := LMc36.out; omega)
                 intro v287 w40 ho hb hg hat
                 rw [← Ny286.out] at ho
                 have n0_ := asd (Kd.R_over' (by (with_reducible repeat (first | apply Kd.R_alloc | apply Kd.R_drewN | apply Kd.R_drew)); exact HO_3.out) (Kd.R_typed (by (with_reducible repeat (first | apply Kd.R_alloc | apply Kd.R_drewN | apply Kd.R_drew)); exact HO_4.out)) (by decide) hg)
                 have n1_ := asd (hb)
                 have n2_ := asd (ho)
                 clear HO_3
                 clear HB
                 clear HO_4
                 have HO_3 := n0_
                 have HB := n1_
                 have HO288 := n2_
                 clear n0_ n1_ n2_
                 clear ho hb hg hat
                 refine hK.out _ _ ?_
                 clear hK K
                 refine norm_ (a' := ?_) ?_ ?_
                 rotate_left
                 ·show Act.put _ (some 78) _ = _
                  simp only [Act.put, sB, i64_w, i32_w]
                  rfl
                 refine pure_ (i := 15) (N := some 4) (v := ?_) (a' := ?_) #[true, true, true, true, true, true, true, true, true, true, true, true, true, true, true, true] rfl rfl (any_of HT_.out (by kernel_rfl)) (fun _ _ _ h => h) (Or.inl ⟨by rfl, ?_⟩) ?_ ?_
                 rotate_left
                 ·intro w'
                  go_simp
                  with_reducible rfl
                 rotate_left
                 ·simp only [Act.put, sB, i64_w, i32_w]
                  rfl
                 refine done_ (done_of HT_.out (by kernel_rfl)) ?_
                 have p289 : 0 ≤ (x5_2 : Int) := of_decide_eq_true (by assumption)
                 have q289 : x5_2 < (x3_1.length : Int) := of_decide_eq_true (by assumption)
                 obtain ⟨ad289, e289, hx289_0⟩ := Kd.at_int (Kd.R_reads' HO_3.out).2.2 x5_2 p289 q289
                 obtain rfl : ad284 = ad289 := (by injection e289)
                 replace p289 := eq_true p289
                 replace q289 := eq_true q289
                 have p37 : 0 ≤ (x5_2 : Int) := of_decide_eq_true (by assumption)
                 have q37 : (x5_2 : Int) < ((x3_1.length : Int) : Int) := of_decide_eq_true (by assumption)
                 obtain ⟨go37, co37, eo37, gb37, gl37, cl37, HG37⟩ := Kd.R_form HO_3.out (by omega)
                 (first | cases eo37 | (injection eo37 with ea_ en_ ec_; (first | subst ea_ | (injection ea_ with ea_; subst ea_)); subst ec_; clear en_))
                 have GB37 := asd gb37
                 have GG37 := asd HG37
                 clear gb37 gl37 HG37
                 (first | simp only [add_plain] at hx284_0 | skip)
                 (first | simp only [add_plain] at hx289_0 | skip)
                 obtain ⟨hx37_0, hf37_0⟩ := Kd.R_celln 0 HO_3.out (x5_2 : Int) p37 q37
                 replace p37 := eq_true p37
                 replace q37 := eq_true q37
                 obtain ⟨hy41_, hz41_⟩ := Kd.R_celln 0 HO_3.out (x5_2 : Int) (of_decide_eq_true (by assumption)) (of_decide_eq_true (by assumption))
                 have HP41 := Kd.R_putg HO_3.out (x5_2 : Int) (wrap64 ((rd x3_1 x5_2) + 1))
                 try go_wp2_with (first | ((with_reducible refine gate_store (t := 3) (p := 84) rfl ?_); refine store_event (t := 3) (p := 84) (v := ?vo_w42) (w1 := (w40.setCell ⟨go37, (x5_2 : Int).toNat, none⟩ (.int .i64 (wrap64 ((rd x3_1 x5_2) + 1))))) ?hg ?ho ?hn ?hr ?_; (case ho => rfl); (case hg => rfl); (case hn => rfl); (case hr => first | (go_simp; done) | (go_simp; rfl)); intro w42 hw; have hg : w40.grownBy w42 (some go37) := (by rw [hw]; exact HP41.2); have hp_ : Kd.R (Kd.int .i64) 3 w42 w.heap.size (fun _ => True) (.slice (some ⟨go37, 0, none⟩) x3_1.length co39) y290 := (by rw [hw, Ny290.out]; exact HP41.1); clear HP41; have n0_ := asd (hp_); have n1_ := asd (Kd.R_over' (v := (.slice (some ⟨go37, 0, none⟩) x3_1.length co39)) (by (with_reducible repeat (first | apply Kd.R_alloc | apply Kd.R_drewN | apply Kd.R_drew)); exact HO288.out) (Kd.R_typed HO_3.out) (by decide) hg); have n2_ := asd ((by rw [hw]; exact below_set (HB.out) GB37.out : Below w.heap.size w w42)); clear HO_3; clear HO288; clear HB; have HO_3 := n0_; have HO288 := n1_; have HB := n2_; clear n0_ n1_ n2_; clear hg hw hp_))
                 go_roundg k2
                 case measure => have := HK1.out; have := HK2.out; omega
                 case rel => exact ⟨(y290), (y286), H', ⟨by have := HK1.out; have := HK2.out; omega⟩, ⟨by (with_reducible repeat (first | apply Kd.R_alloc | apply Kd.R_drewN | apply Kd.R_drew)); exact HO_3.out⟩, ⟨by (with_reducible repeat (first | apply Kd.R_alloc | apply Kd.R_drewN | apply Kd.R_drew)); exact HO288.out⟩, ⟨by repeat (first | (with_reducible first | exact HB.out | apply wa | apply wn | apply wd) | exact HB.out)⟩⟩
                ·rw [if_neg c36] at H
                 exact absurd H (by simp)
               ·rw [if_neg c35] at H
                exact absurd H (by simp)
              ·rw [if_neg c34] at H
               exact absurd H (by simp)
             ·rw [if_neg c33] at H
              exact absurd H (by simp)
            ·rw [if_neg c32] at H
             exact absurd H (by simp)
           ·rw [if_neg c31] at H
            exact absurd H (by simp)
    ·rw [if_neg c6] at H
     exact absurd H (by simp)
   ·rw [if_neg c5] at H
    exact absurd H (by simp)
  ·rw [if_neg c4] at H
   exact absurd H (by simp)
 ·rw [if_neg c3] at H
  exact absurd H (by simp)
end Go.Proofs.Ytalimpniimgheaa.Fn
namespace Go.Proofs.Ytalimpniimgheaa.Fn
open Go.RowKit Go.Proofs.YtalimpniimgheaaW.PrintWords Go.Proofs.YtalimpniimgheaaW.PrintLast Go.Proofs.YtalimpniimgheaaW.PrintMore
set_option linter.unusedVariables false
set_option linter.unusedSimpArgs false
def posI (pos : List Nat) : List Int := pos.map (fun n : Nat => (n : Int))
theorem posI_rd (pos : List Nat) (i : Nat) : rd (posI pos) (i : Int) = ((pos.getD i 0 : Nat) : Int) := by unfold rd posI; rw [Int.toNat_natCast]; exact getD_map (fun n : Nat => (n : Int)) pos i 0
theorem posI_len (pos : List Nat) : (posI pos).length = pos.length := by simp [posI]
theorem rdL (ys : List (List S64)) (i : Nat) : rd_L7 ys (i : Int) = ys.getD i [] := by unfold rd_L7; rw [Int.toNat_natCast]
theorem rdE (ys : List (List S64)) (pos : List Nat) (i : Nat) : rd_T64 (ys.getD i []) ((pos.getD i 0 : Nat) : Int) = entO ys pos i := by unfold rd_T64 entO; rw [Int.toNat_natCast]; rfl
def Best (ys : List (List S64)) (pos : List Nat) (i : Nat) (b : Int) : Prop := (b = -1 ∧ ∀ j, j < i → ¬ Av ys pos j) ∨ ∃ c : Nat, b = c ∧ c < i ∧ Av ys pos c ∧ ∀ j, j < i → Av ys pos j → (entO ys pos c).f0 < (entO ys pos j).f0 ∨ ((entO ys pos c).f0 = (entO ys pos j).f0 ∧ c ≤ j)
theorem best_skip {ys : List (List S64)} {pos : List Nat} {i : Nat} {b : Int} (h : Best ys pos i b) (hn : ¬ Av ys pos i) : Best ys pos (i + 1) b := by
 rcases h with ⟨rfl, h⟩ | ⟨c, rfl, hc, ha, hm⟩
 ·exact .inl ⟨rfl, fun j hj => by
   by_cases e : j = i
   ·subst e; exact hn
   ·exact h j (by omega)⟩
 ·exact .inr ⟨c, rfl, by omega, ha, fun j hj haj => by
   by_cases e : j = i
   ·subst e; exact absurd haj hn
   ·exact hm j (by omega) haj⟩
theorem best_first {ys : List (List S64)} {pos : List Nat} {i : Nat} (h : Best ys pos i (-1)) (ha : Av ys pos i) : Best ys pos (i + 1) i := by
 rcases h with ⟨_, h⟩ | ⟨c, hc, _⟩
 ·exact .inr ⟨i, rfl, by omega, ha, fun j hj haj => by
   by_cases e : j = i
   ·subst e; omega
   ·exact absurd haj (h j (by omega))⟩
 ·omega
theorem best_take {ys : List (List S64)} {pos : List Nat} {i c : Nat} (h : Best ys pos i c) (ha : Av ys pos i) (hl : (entO ys pos i).f0 < (entO ys pos c).f0) : Best ys pos (i + 1) i := by
 rcases h with ⟨hc, _⟩ | ⟨c2, hc, hci, hac, hm⟩
 ·omega
 ·obtain rfl : c = c2 := by omega
  exact .inr ⟨i, rfl, by omega, ha, fun j hj haj => by
   by_cases e : j = i
   ·subst e; omega
   ·have := hm j (by omega) haj; omega⟩
theorem best_keep {ys : List (List S64)} {pos : List Nat} {i c : Nat} (h : Best ys pos i c) (hl : ¬ (entO ys pos i).f0 < (entO ys pos c).f0) : Best ys pos (i + 1) c := by
 rcases h with ⟨hc, _⟩ | ⟨c2, hc, hci, hac, hm⟩
 ·omega
 ·obtain rfl : c = c2 := by omega
  exact .inr ⟨c, rfl, by omega, hac, fun j hj haj => by
   by_cases e : j = i
   ·subst e; omega
   ·exact hm j (by omega) haj⟩
theorem ref_inner (ys : List (List S64)) (pos : List Nat) (out : List S117) (hp : pos.length = ys.length) (hy : ys.length ≤ 1000) (Pr : List S117 → Prop)
  (hfin : ∀ b, Best ys pos ys.length b → ∃ k r, parcloseref40_Logs.l1 k ys (posI pos) out b (ys.length : Int) = some r ∧ Pr r) :
  ∀ n (i : Nat), ys.length - i = n → i ≤ ys.length → ∀ b, Best ys pos i b → ∃ k r, parcloseref40_Logs.l1 k ys (posI pos) out b (i : Int) = some r ∧ Pr r := by
 intro n
 induction n with
 | zero =>
  intro i hn hi b hb
  obtain rfl : i = ys.length := by omega
  exact hfin b hb
 | succ n ih =>
  intro i hn hi b hb
  have hpl := posI_len pos
  have go : ∀ b2, Best ys pos (i + 1) b2 → (∀ k, parcloseref40_Logs.l1 (k + 1) ys (posI pos) out b (i : Int) = parcloseref40_Logs.l1 k ys (posI pos) out b2 (wrap64 ((i : Int) + 1))) → ∃ k r, parcloseref40_Logs.l1 k ys (posI pos) out b (i : Int) = some r ∧ Pr r := fun b2 h2 he => by
   obtain ⟨k, r, hk, hr⟩ := ih (i + 1) (by omega) (by omega) b2 h2
   exact ⟨k + 1, r, by rw [he, w64n i (by omega)]; exact hk, hr⟩
  by_cases ha : Av ys pos i
  ·have hlt := ha.2
   rcases hb with ⟨rfl, hn1⟩ | ⟨c, rfl, hci, hac, hm⟩
   ·refine go i (best_first (.inl ⟨rfl, hn1⟩) ha) (fun k => ?_)
    conv => lhs; unfold parcloseref40_Logs.l1
    rw [if_pos (by omega), if_pos (by omega), if_pos (by omega), posI_rd, rdL, if_pos (by omega), if_pos (by omega)]
   ·have hbest : Best ys pos i (c : Int) := .inr ⟨c, rfl, hci, hac, hm⟩
    have hclt := hac.2
    have hcl := hac.1
    by_cases hl : (entO ys pos i).f0 < (entO ys pos c).f0
    ·refine go i (best_take hbest ha hl) (fun k => ?_)
     conv => lhs; unfold parcloseref40_Logs.l1
     rw [if_pos (by omega), if_pos (by omega), if_pos (by omega), posI_rd, rdL, if_pos (by omega), if_neg (by omega), if_pos (by omega), if_pos (by omega), if_pos (by omega), if_pos (by omega), posI_rd, rdL, if_pos (by omega), if_pos (by omega), rdE, rdE, if_pos hl]
    ·refine go c (best_keep hbest hl) (fun k => ?_)
     conv => lhs; unfold parcloseref40_Logs.l1
     rw [if_pos (by omega), if_pos (by omega), if_pos (by omega), posI_rd, rdL, if_pos (by omega), if_neg (by omega), if_pos (by omega), if_pos (by omega), if_pos (by omega), if_pos (by omega), posI_rd, rdL, if_pos (by omega), if_pos (by omega), rdE, rdE, if_neg hl]
  ·have hge : ¬ pos.getD i 0 < (ys.getD i []).length := fun q => ha ⟨by omega, q⟩
   refine go b (best_skip hb ha) (fun k => ?_)
   conv => lhs; unfold parcloseref40_Logs.l1
   rw [if_pos (by omega), if_pos (by omega), if_pos (by omega), posI_rd, rdL, if_neg (by omega)]
theorem posI_step (pos : List Nat) (c : Nat) (h : pos.getD c 0 ≤ 100000) : (posI pos).set (c : Int).toNat (wrap64 (((pos.getD c 0 : Nat) : Int) + 1)) = posI (stepP pos c) := by
 rw [Int.toNat_natCast, w64n _ (by omega)]
 unfold posI stepP
 rw [List.map_set]
theorem ref_go (ys : List (List S64)) (hy : ys.length ≤ 1000) (hb : ∀ i, (ys.getD i []).length ≤ 1000) : ∀ n (pos : List Nat) (out : List S117), pos.length = ys.length → leftN ys pos ≤ n → out.length + n ≤ 2000000 → ∃ k r, parcloseref40_Logs.l0 k ys (posI pos) out = some r ∧ ∃ rs, Mg ys pos rs ∧ r = out ++ rs.map row117 := by
 intro n
 induction n with
 | zero =>
  intro pos out hp hn ho
  obtain ⟨k, r, hk, hr⟩ := ref_inner ys pos out hp hy (fun r => ∃ rs, Mg ys pos rs ∧ r = out ++ rs.map row117) (fun b hbest => by
   rcases hbest with ⟨rfl, h⟩ | ⟨c, rfl, hc, hac, hm⟩
   ·refine ⟨1, out, ?_, [], .done (fun i hi => h i hi.1 hi), by simp⟩
    unfold parcloseref40_Logs.l1
    rw [if_neg (by omega), if_pos (by omega)]
   ·have := left_step hp hac; omega) _ 0 rfl (Nat.zero_le _) (-1) (.inl ⟨rfl, fun j hj => absurd hj (by omega)⟩)
  exact ⟨k + 1, r, hk, hr⟩
 | succ n ih =>
  intro pos out hp hn ho
  obtain ⟨k, r, hk, hr⟩ := ref_inner ys pos out hp hy (fun r => ∃ rs, Mg ys pos rs ∧ r = out ++ rs.map row117) (fun b hbest => by
   rcases hbest with ⟨rfl, h⟩ | ⟨c, rfl, hc, hac, hm⟩
   ·refine ⟨1, out, ?_, [], .done (fun i hi => h i hi.1 hi), by simp⟩
    unfold parcloseref40_Logs.l1
    rw [if_neg (by omega), if_pos (by omega)]
   ·have hls := left_step hp hac
    obtain ⟨k, r, hk, rs, hmg, hr⟩ := ih (stepP pos c) (out ++ [row117 (c, entO ys pos c)]) (by rw [stepP_length]; exact hp) (by omega) (by rw [List.length_append]; simp only [List.length_singleton]; omega)
    have hlt := hac.2
    have hbc := hb c
    have hpl := posI_len pos
    refine ⟨k + 1, r, ?_, (c, entO ys pos c) :: rs, .step ⟨hac, fun j hj => hm j hj.1 hj⟩ hmg, by rw [hr]; simp⟩
    rw [← posI_step pos c (by omega)] at hk
    unfold parcloseref40_Logs.l1
    rw [if_neg (by omega), if_neg (by omega), if_pos (by omega), if_pos (by omega), if_pos (by omega), posI_rd, rdL, if_pos (by omega), if_pos (by omega), if_pos (by omega), rdE]
    exact hk) _ 0 rfl (Nat.zero_le _) (-1) (.inl ⟨rfl, fun j hj => absurd hj (by omega)⟩)
  exact ⟨k + 1, r, hk, hr⟩
theorem ref_ev (yss : List (List S64)) (hy : yss.length ≤ 1000) (hb : ∀ i, (yss.getD i []).length ≤ 1000) : ∃ k rs, parcloseref40_Logs.f k yss = some (rs.map row117) ∧ Mg (yss.take 64) (List.replicate (yss.take 64).length 0) rs := by
 have hyl : (yss.take 64).length ≤ 64 := by rw [List.length_take]; omega
 have hb2 : ∀ i, ((yss.take 64).getD i []).length ≤ 1000 := fun i => by
  by_cases q : i < 64
  ·rw [getD_take _ _ _ _ q]; exact hb i
  ·have : (yss.take 64).getD i [] = [] := by rw [List.getD_eq_getElem?_getD, List.getElem?_take, if_neg q]; rfl
   rw [this]; simp
 have hleft := left_le (yss.take 64) (List.replicate (yss.take 64).length 0) 1000 hb2
 have h7 : (yss.take 64).length * 1000 ≤ 64 * 1000 := Nat.mul_le_mul_right _ hyl
 obtain ⟨k, r, hk, rs, hm, hr⟩ := ref_go (yss.take 64) (by omega) hb2 64000 (List.replicate (yss.take 64).length 0) [] (by simp) (by omega) (by simp)
 refine ⟨k, rs, ?_, hm⟩
 have m1 : mn (yss.length : Int) 64 = ((min 64 yss.length : Nat) : Int) := by unfold mn; split <;> omega
 have e : yss.take (min 64 yss.length) = yss.take 64 := by rw [List.take_eq_take_iff]; omega
 have e0 : posI (List.replicate (yss.take 64).length 0) = List.replicate (yss.take 64).length (0 : Int) := by unfold posI; rw [List.map_replicate]; rfl
 rw [e0] at hk
 unfold parcloseref40_Logs.f
 rw [m1, if_pos (by omega), if_pos (by omega), Int.toNat_natCast, e]
 simp only [Option.bind_some]
 rw [if_pos (by omega), Int.toNat_natCast, if_pos (by omega), hk, hr, List.nil_append]
end Go.Proofs.Ytalimpniimgheaa.Fn
namespace Go.Proofs.Ytalimpniimgheaa.Fn
open Go.RowKit Go.Proofs.YtalimpniimgheaaW.PrintWords Go.Proofs.YtalimpniimgheaaW.PrintLast Go.Proofs.YtalimpniimgheaaW.PrintMore
set_option linter.unusedVariables false
set_option linter.unusedSimpArgs false
theorem alloc_size (w : World) (o : Obj) : (w.alloc o).heap.size = w.heap.size + 1 := by unfold World.alloc; exact Array.size_push ..
theorem C_two {w : World} {g t : Nat} {a b : Int} (h : w.heap[g]? = some (.cells #[.int .i64 a, .int .i64 0, .int .i64 0, .int .i64 0, .int .i64 b, .int .i64 0, .int .i64 0, .int .i64 0] t (0, 0))) : Kd.C k65 w (some ⟨g, 0, none⟩) 2 [(⟨a, 0, 0, 0⟩ : S65), ⟨b, 0, 0, 0⟩] := by
 refine ⟨rfl, by simp, fun _ => ⟨_, rfl, ?_⟩⟩
 intro j p hp
 match j, hp with
 | 0, hp =>
  cases hp
  refine ⟨_, rfl, k65_mk w ⟨a, 0, 0, 0⟩, fun i u hu => ?_⟩
  have h2 := blk_cell h i
  rw [add_plain, show 0 * k65.sz + i = i by simp]
  rw [h2]
  match i with
  | 0 => exact hu
  | 1 => exact hu
  | 2 => exact hu
  | 3 => exact hu
  | i + 4 => exact absurd hu (by simp)
 | 1, hp =>
  cases hp
  refine ⟨_, rfl, k65_mk w ⟨b, 0, 0, 0⟩, fun i u hu => ?_⟩
  have h2 := blk_cell h (4 + i)
  rw [add_plain, show 1 * k65.sz + i = 4 + i by rfl]
  rw [h2]
  match i with
  | 0 => exact hu
  | 1 => exact hu
  | 2 => exact hu
  | 3 => exact hu
  | i + 4 => exact absurd hu (by simp)
 | j + 2, hp => exact absurd hp (by simp)
theorem C_pair {w : World} {g t : Nat} {B0 B1 : Option Addr} {l0 l1 : List S65} (h : w.heap[g]? = some (.cells #[.slice B0 l0.length l0.length, .slice B1 l1.length l1.length] t (0, 0))) (h0 : Kd.C k65 w B0 l0.length l0) (h1 : Kd.C k65 w B1 l1.length l1) : Kd.C (Kd.slice 65 k65) w (some ⟨g, 0, none⟩) 2 [l0, l1] := by
 refine ⟨rfl, by simp, fun _ => ⟨_, rfl, ?_⟩⟩
 intro j p hp
 match j, hp with
 | 0, hp =>
  cases hp
  refine ⟨_, rfl, ⟨B0, l0.length, rfl, Nat.le_refl _, h0⟩, fun i u hu => ?_⟩
  have h2 := blk_cell h i
  rw [add_plain, show 0 * (Kd.slice 65 k65).sz + i = i by simp, h2]
  match i with
  | 0 => exact hu
  | i + 1 => exact absurd hu (by simp)
 | 1, hp =>
  cases hp
  refine ⟨_, rfl, ⟨B1, l1.length, rfl, Nat.le_refl _, h1⟩, fun i u hu => ?_⟩
  have h2 := blk_cell h (1 + i)
  rw [add_plain, show 1 * (Kd.slice 65 k65).sz + i = 1 + i by rfl, h2]
  match i with
  | 0 => exact hu
  | i + 1 => exact absurd hu (by simp)
 | j + 2, hp => exact absurd hp (by simp)
def ysK : List (List S64) := [[⟨1, 0, 0, 0⟩, ⟨5, 0, 0, 0⟩], [⟨1, 0, 0, 0⟩, ⟨2, 0, 0, 0⟩]]
theorem leastK {p0 p1 i : Nat} (hi : i < 2) (h0 : p0 ≤ 2) (h1 : p1 ≤ 2) (hav : [p0, p1].getD i 0 < 2) (h : ∀ j, j < 2 → [p0, p1].getD j 0 < 2 → (entO ysK [p0, p1] i).f0 < (entO ysK [p0, p1] j).f0 ∨ ((entO ysK [p0, p1] i).f0 = (entO ysK [p0, p1] j).f0 ∧ i ≤ j)) : Least ysK [p0, p1] i := by
 have hl : ∀ j, j < 2 → (ysK.getD j []).length = 2 := fun j hj => by
  rcases (by omega : j = 0 ∨ j = 1) with rfl | rfl <;> rfl
 exact ⟨⟨hi, by rw [hl i hi]; exact hav⟩, fun j hj => h j hj.1 (by have := hj.2; rwa [hl j hj.1] at this)⟩
theorem mgK : Mg ysK [0, 0] [(0, ⟨1, 0, 0, 0⟩), (1, ⟨1, 0, 0, 0⟩), (1, ⟨2, 0, 0, 0⟩), (0, ⟨5, 0, 0, 0⟩)] := by
 have two : ∀ (Q : Nat → Prop), Q 0 → Q 1 → ∀ j, j < 2 → Q j := fun Q a b j hj => by
  rcases (by omega : j = 0 ∨ j = 1) with rfl | rfl
  ·exact a
  ·exact b
 refine .step (i := 0) (leastK (by omega) (by omega) (by omega) (by decide) (two _ (by decide) (by decide))) ?_
 refine .step (i := 1) (pos := [1, 0]) (leastK (by omega) (by omega) (by omega) (by decide) (two _ (by decide) (by decide))) ?_
 refine .step (i := 1) (pos := [1, 1]) (leastK (by omega) (by omega) (by omega) (by decide) (two _ (by decide) (by decide))) ?_
 refine .step (i := 0) (pos := [1, 2]) (leastK (by omega) (by omega) (by omega) (by decide) (two _ (by decide) (by decide))) ?_
 refine .done (fun i hi => ?_)
 obtain ⟨h1, h2⟩ := hi
 rcases (show i = 0 ∨ i = 1 by have : i < 2 := h1; omega) with rfl | rfl
 ·exact absurd h2 (by decide)
 ·exact absurd h2 (by decide)
set_option maxHeartbeats 8000000 in
set_option maxRecDepth 100000 in
theorem mknows_calls (w : World) : Calls Try.prog 38 #[] w fun e w' => e = .returned (.bool true) ∧ Below w.heap.size w w' := by
 have hu65 := Try.underlying65
 have hu67 := Try.underlying67
 go_enter Try.func38, Try.ntmps38
 go_wp2_with fail
 have e1 : (w.alloc (.cells #[.int .i64 1, .int .i64 0, .int .i64 0, .int .i64 0, .int .i64 5, .int .i64 0, .int .i64 0, .int .i64 0] 65)).heap.size = w.heap.size + 1 := alloc_size _ _
 have e2 : ((w.alloc (.cells #[.int .i64 1, .int .i64 0, .int .i64 0, .int .i64 0, .int .i64 5, .int .i64 0, .int .i64 0, .int .i64 0] 65)).alloc (.cells #[.int .i64 1, .int .i64 0, .int .i64 0, .int .i64 0, .int .i64 2, .int .i64 0, .int .i64 0, .int .i64 0] 65)).heap.size = w.heap.size + 1 + 1 := by rw [alloc_size, alloc_size]
 have b0 := blk_alloc (blk_alloc (heap_alloc_new w (.cells #[.int .i64 1, .int .i64 0, .int .i64 0, .int .i64 0, .int .i64 5, .int .i64 0, .int .i64 0, .int .i64 0] 65)) (.cells #[.int .i64 1, .int .i64 0, .int .i64 0, .int .i64 0, .int .i64 2, .int .i64 0, .int .i64 0, .int .i64 0] 65)) (.cells #[.slice (some ⟨w.heap.size, 0, none⟩) 2 2, .slice (some ⟨w.heap.size + 1, 0, none⟩) 2 2] 31)
 have b1 := blk_alloc (heap_alloc_new (w.alloc (.cells #[.int .i64 1, .int .i64 0, .int .i64 0, .int .i64 0, .int .i64 5, .int .i64 0, .int .i64 0, .int .i64 0] 65)) (.cells #[.int .i64 1, .int .i64 0, .int .i64 0, .int .i64 0, .int .i64 2, .int .i64 0, .int .i64 0, .int .i64 0] 65)) (.cells #[.slice (some ⟨w.heap.size, 0, none⟩) 2 2, .slice (some ⟨w.heap.size + 1, 0, none⟩) 2 2] 31)
 have b2 := heap_alloc_new ((w.alloc (.cells #[.int .i64 1, .int .i64 0, .int .i64 0, .int .i64 0, .int .i64 5, .int .i64 0, .int .i64 0, .int .i64 0] 65)).alloc (.cells #[.int .i64 1, .int .i64 0, .int .i64 0, .int .i64 0, .int .i64 2, .int .i64 0, .int .i64 0, .int .i64 0] 65)) (.cells #[.slice (some ⟨w.heap.size, 0, none⟩) 2 2, .slice (some ⟨w.heap.size + 1, 0, none⟩) 2 2] 31)
 rw [e1] at b1
 rw [e2] at b2
 have HB := asd (below_alloc (below_alloc (below_alloc (Below.refl w.heap.size w) (.cells #[.int .i64 1, .int .i64 0, .int .i64 0, .int .i64 0, .int .i64 5, .int .i64 0, .int .i64 0, .int .i64 0] 65)) (.cells #[.int .i64 1, .int .i64 0, .int .i64 0, .int .i64 0, .int .i64 2, .int .i64 0, .int .i64 0, .int .i64 0] 65)) (.cells #[.slice (some ⟨w.heap.size, 0, none⟩) 2 2, .slice (some ⟨w.heap.size + 1, 0, none⟩) 2 2] 31))
 have BC := asd (C_pair (l0 := [(⟨1, 0, 0, 0⟩ : S65), ⟨5, 0, 0, 0⟩]) (l1 := [(⟨1, 0, 0, 0⟩ : S65), ⟨2, 0, 0, 0⟩]) b2 (C_two b0) (C_two b1))
 clear b0 b1 b2 e1 e2
 generalize ((w.alloc (.cells #[.int .i64 1, .int .i64 0, .int .i64 0, .int .i64 0, .int .i64 5, .int .i64 0, .int .i64 0, .int .i64 0] 65)).alloc (.cells #[.int .i64 1, .int .i64 0, .int .i64 0, .int .i64 0, .int .i64 2, .int .i64 0, .int .i64 0, .int .i64 0] 65)).alloc (.cells #[.slice (some ⟨w.heap.size, 0, none⟩) 2 2, .slice (some ⟨w.heap.size + 1, 0, none⟩) 2 2] 31) = w3 at HB BC ⊢
 refine (mlogs_calls (some ⟨w.heap.size + 1 + 1, 0, none⟩) 2 ysK w3 BC.out (Nat.le_refl 2) (fun i => ?_) (by decide)).mono ?_
 ·match i with
  | 0 => decide
  | 1 => decide
  | i + 2 => simp [ysK]
 rintro e w4 ⟨v, rs, rfl, hm, hR, hb⟩
 obtain rfl := mg_fun hm mgK
 obtain ⟨g, cap, rfl, _⟩ := Kd.R_form hR (by decide)
 have HB4 := asd ((HB.out.trans (hb.mono HB.out.size)))
 obtain ⟨ad, ha, z0, _⟩ := at_T67 (C_ofR hR) 0 (by decide) (by decide)
 obtain rfl := Option.some.inj ha
 obtain ⟨ad, ha, z1, _⟩ := at_T67 (C_ofR hR) 1 (by decide) (by decide)
 obtain rfl := Option.some.inj ha
 obtain ⟨ad, ha, _, z2, _⟩ := at_T67 (C_ofR hR) 2 (by decide) (by decide)
 obtain rfl := Option.some.inj ha
 obtain ⟨ad, ha, _, z3, _⟩ := at_T67 (C_ofR hR) 3 (by decide) (by decide)
 obtain rfl := Option.some.inj ha
 have y0 : w4.cell? ⟨g, 0, none⟩ = some (.int .i64 0) := z0
 have y1 : w4.cell? ⟨g, 5, none⟩ = some (.int .i64 1) := z1
 have y2 : w4.cell? ⟨g, 11, none⟩ = some (.int .i64 2) := z2
 have y3 : w4.cell? ⟨g, 16, none⟩ = some (.int .i64 5) := z3
 clear z0 z1 z2 z3 hm hR hb BC
 go_wp2
 go_ret
 exact ⟨rfl, HB4.out⟩
end Go.Proofs.Ytalimpniimgheaa.Fn
namespace Go.Proofs.Ytalimpniimgheaa.Fn
open Go.RowKit Go.Proofs.YtalimpniimgheaaW.PrintWords Go.Proofs.YtalimpniimgheaaW.PrintLast Go.Proofs.YtalimpniimgheaaW.PrintMore
set_option linter.unusedVariables false
set_option linter.unusedSimpArgs false
set_option maxHeartbeats 8000000 in
set_option maxRecDepth 100000 in
theorem mtells_calls (a0 : Option Addr) (c0 : Nat) (x0 : List (List S64)) (w : World) (hr : Kd.C (Kd.slice 64 k64) w a0 x0.length x0) (hc : x0.length ≤ c0) : Calls Try.prog 6 #[.slice a0 x0.length c0] w fun e w' => e = .returned (.bool true) ∧ Below w.heap.size w w' := by
 obtain ⟨kf, b, hf, hfew⟩ := few_ev x0
 have FW := asd (parcloselaw40_few.calls kf a0 c0 x0 b w hr hc hf)
 have HR := asd hr
 have HC := asd hc
 cases b with
 | false =>
  clear hr hc hf hfew
  go_enter Try.func6, Try.ntmps6
  go_wp2_with (first | (go_at_call 37; refine FW.out.mono ?_; rintro e w1 ⟨rfl, hd⟩; have HB1 := asd hd.below; clear hd) | (go_at_call 38; refine (mknows_calls _).mono ?_; rintro e w2 ⟨rfl, hb⟩; have HB2 := asd (below_step HB1.out hb); clear hb))
  go_ret
  exact ⟨rfl, HB2.out⟩
 | true =>
  obtain ⟨h70, h40⟩ := hfew rfl
  have hall : ∀ i, (x0.getD i []).length ≤ 1000 := fun i => by
   by_cases q : i < x0.length
   ·have := h40 i q; omega
   ·have : x0.getD i [] = [] := by simp [List.getD_eq_getElem?_getD, List.getElem?_eq_none (by omega : x0.length ≤ i)]
    rw [this]; simp
  obtain ⟨kl, hl⟩ := logs_ev x0 (by omega) (fun i => by have := hall i; omega)
  obtain ⟨kr, rs, hrf, hmg⟩ := ref_ev x0 (by omega) hall
  have RL : Aside0 (rs.length ≤ 100000) := ⟨by
   have hy : (x0.take 64).length ≤ 64 := by rw [List.length_take]; omega
   have hb2 : ∀ i, ((x0.take 64).getD i []).length ≤ 1000 := fun i => by
    by_cases q : i < 64
    ·rw [getD_take _ _ _ _ q]; exact hall i
    ·have : (x0.take 64).getD i [] = [] := by rw [List.getD_eq_getElem?_getD, List.getElem?_take, if_neg q]; rfl
     rw [this]; simp
   have h1 := left_le (x0.take 64) (List.replicate (x0.take 64).length 0) 1000 hb2
   have h2 : (x0.take 64).length * 1000 ≤ 64 * 1000 := Nat.mul_le_mul_right _ hy
   obtain ⟨r2, hm2, hl2⟩ := mg_exists (x0.take 64) 64000 (List.replicate (x0.take 64).length 0) (by simp) (by omega)
   rw [mg_fun hmg hm2]; omega⟩
  obtain ⟨ks, hse⟩ := same_ev rs RL.out
  have LC := asd (fun w1 (h : Kd.C (Kd.slice 64 k64) w1 a0 x0.length x0) => parcloselaw40_logs.calls kl a0 c0 x0 _ w1 h hc hl)
  have RC := asd (fun w1 (h : Kd.C (Kd.slice 64 k64) w1 a0 x0.length x0) => parcloseref40_Logs.calls kr a0 c0 x0 _ w1 h hc hrf)
  have MG := asd hmg
  have HA := asd (And.intro h70 hall)
  have SE := asd hse
  clear hr hc hf hfew h70 h40 hall hl hrf hmg hse
  go_enter Try.func6, Try.ntmps6
  go_wp2_with (first
   | (go_at_call 37; refine FW.out.mono ?_; rintro e w1 ⟨rfl, hd⟩; have HB1 := asd hd.below; clear hd)
   | (go_at_call 41; refine (LC.out _ (Kd.C_below HR.out HB1.out)).mono ?_; rintro e w2 ⟨v, rfl, hs, hb⟩; obtain ⟨A2, c2, rfl, hc2, hC2⟩ := Kd.S_reads hs; have CC := asd (And.intro hc2 hC2); have HB2 := asd (below_step HB1.out hb); clear hs hb hc2 hC2)
   | (go_at_call 40; (try rw [List.length_map] at CC); (try rw [List.length_map]); refine (mlogs_calls A2 c2 x0 _ CC.out.2 CC.out.1 HA.out.2 (by have := HA.out.1; omega)).mono ?_; rintro e w3 ⟨v, rs2, rfl, hm, hR, hb⟩; obtain rfl := mg_fun hm MG.out; obtain ⟨A3, c3, rfl, hc3, hC3⟩ := Kd.R_reads hR; have C3 := asd (And.intro hc3 hC3); have HB3 := asd (below_step HB2.out hb); clear hm hR hb hc3 hC3)
   | (go_at_call 42; refine (RC.out _ (Kd.C_below HR.out HB3.out)).mono ?_; rintro e w4 ⟨v, rfl, hR, hb⟩; obtain ⟨A4, c4, rfl, hc4, hC4⟩ := Kd.R_reads hR; have C4 := asd (And.intro hc4 hC4); have C34 := asd (Kd.C_below C3.out.2 hb); have HB4 := asd (below_step HB3.out hb); clear hR hb hc4 hC4)
   | (go_at_call 39; refine (calls_of_args (args' := #[.slice A3 (List.map row67 _).length c3, .slice A4 (List.map row117 _).length c4]) (by simp only [List.length_map]) (parcloselaw40_same.calls _ A3 c3 _ A4 c4 _ true _ C34.out C3.out.1 C4.out.2 C4.out.1 SE.out)).mono ?_; rintro e w5 ⟨rfl, hd⟩; have HB5 := asd (below_step HB4.out hd.below); clear hd)
   | (go_at_call 38; refine (mknows_calls _).mono ?_; rintro e w6 ⟨rfl, hb⟩; have HB6 := asd (below_step HB5.out hb); clear hb))
  go_ret
  exact ⟨rfl, HB6.out⟩
end Go.Proofs.Ytalimpniimgheaa.Fn
