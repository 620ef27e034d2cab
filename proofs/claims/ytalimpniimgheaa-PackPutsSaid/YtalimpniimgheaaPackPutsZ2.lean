/- Part of the proof of PackPuts: see the last text. (Words laid by the print, as far as they are named here; walks written by a program of this project; plain laws.) -/
import Derived.Test.YtalimpniimgheaaPackPutsZ1
namespace Go.Proofs.Ytalimpniimgheaa.Fn
open Go.RowKit Go.Proofs.YtalimpniimgheaaW.PrintWords Go.Proofs.YtalimpniimgheaaW.PrintLast Go.Proofs.YtalimpniimgheaaW.PrintMore
attribute [local go_sem] max2_int min2_int max_two min_two max_three min_three max_four min_four
set_option linter.unusedVariables false
set_option linter.unusedSimpArgs false
def parcloseref36_Sum.l0 : Nat → List Int → Int → Int → Option (Int)
 | 0, _, _, _ => none
 | k + 1, x0, x3, x4 => if x4 < (x0.length : Int) then (if 0 ≤ x4 then (parcloseref36_Sum.l0 k x0 (Int.tmod (wrap64 ((wrap64 ((wrap64 (31 * x3)) + (wrap64 (rd x0 x4)))) + 7)) 65521) (wrap64 (x4 + 1))) else (none)) else (some x3)
def parcloseref36_Sum.f (k : Nat) (l0 : List Int) : Option (Int) := parcloseref36_Sum.l0 k l0 0 0
theorem parcloseref36_Sum.mono_l : ∀ k, (∀ y0 y1 y2, LeO (parcloseref36_Sum.l0 k y0 y1 y2) (parcloseref36_Sum.l0 (k + 1) y0 y1 y2))
 | 0 => fun _ _ _ r h => by simp [parcloseref36_Sum.l0] at h
 | k + 1 => by
  have ih0 := parcloseref36_Sum.mono_l k
  ·intro y0 y1 y2
   unfold parcloseref36_Sum.l0
   repeat' first
   | (with_reducible exact ih0 _ _ _)
   | (with_reducible exact LeO.refl _)
   | (with_reducible exact LeO.none _)
   | (with_reducible refine LeO.ite ?_ ?_)
   | (with_reducible refine LeO.bind ?_ (fun _ => ?_))
   | exact ih0 _ _ _
   | exact LeO.none _
   | refine LeO.ite ?_ ?_
   | refine LeO.bind ?_ (fun _ => ?_)
theorem parcloseref36_Sum.mono : ∀ a0 k, LeO (parcloseref36_Sum.f k a0) (parcloseref36_Sum.f (k + 1) a0) := by
 intro a0 k
 have ih0 := parcloseref36_Sum.mono_l k
 unfold parcloseref36_Sum.f
 repeat' first
   | (with_reducible exact ih0 _ _ _)
   | (with_reducible exact LeO.refl _)
   | (with_reducible exact LeO.none _)
   | (with_reducible refine LeO.ite ?_ ?_)
   | (with_reducible refine LeO.bind ?_ (fun _ => ?_))
   | exact ih0 _ _ _
   | exact LeO.none _
   | refine LeO.ite ?_ ?_
   | refine LeO.bind ?_ (fun _ => ?_)
set_option maxHeartbeats 8000000 in
set_option maxRecDepth 100000 in
theorem parcloseref36_Sum.calls (k : Nat) (A0 : Option Addr) (c0 : Nat) (l0 : List Int) (r : Int) (w : World) (hr0 : Kd.C (Kd.int .u8) w A0 l0.length l0) (hc0 : l0.length ≤ c0) (h : parcloseref36_Sum.f k l0 = some r) :
  Calls Try.prog 60 #[.slice A0 l0.length c0] w fun e w' => e = .returned (.int .i64 r) ∧ Drawn0 w w' := by
 have HR0 := asd hr0
 have HC0 := asd hc0
 clear hr0 hc0
 have H : (parcloseref36_Sum.l0 k l0 0 0) = some r := h
 clear h
 have H' := asd H
 clear H
 go_enter Try.func60, Try.ntmps60
 go_wp2
 go_loopg [3, 4] k (fun kq v3 v4 w' => ∃ (x3_1 : Int) (x4_1 : Int), v3 = .int .i64 x3_1 ∧ v4 = .int .i64 x4_1 ∧ Aside0 (parcloseref36_Sum.l0 kq l0 x3_1 x4_1 = some r) ∧ Aside0 (kq ≤ k) ∧ Drawn0 w w')
 case atStart => exact ⟨(0), (0), (by first | rfl | (simp; done) | (simp [*]; done)), (by first | rfl | (simp; done) | (simp [*]; done)), H', ⟨Nat.le_refl _⟩, by repeat (first | exact Drawn0.refl _ | apply Drawn0.step)⟩
 case round =>
  clear H'
  obtain ⟨x3_1, x4_1, rfl, rfl, HA, HK1, ⟨m1, rfl⟩⟩ := hrel
  cases gk with
  | zero => exact absurd HA.out (by simp [parcloseref36_Sum.l0])
  | succ k1 =>
   have H := HA.out
   clear HA
   simp only [parcloseref36_Sum.l0] at H
   by_cases c2 : x4_1 < (l0.length : Int)
   ·rw [if_pos c2] at H
    have c2b0 : decide (x4_1 < (l0.length : Int)) = true := decide_eq_true c2
    clear c2
    by_cases c3 : 0 ≤ x4_1
    ·rw [if_pos c3] at H
     have c3b0 : decide (0 ≤ x4_1) = true := decide_eq_true c3
     clear c3
     have H' := asd H
     clear H
     have p369 : 0 ≤ (x4_1 : Int) := of_decide_eq_true (by assumption)
     have q369 : x4_1 < (l0.length : Int) := of_decide_eq_true (by assumption)
     obtain ⟨ad369, e369, hx369_0⟩ := Kd.at_int HR0.out x4_1 p369 q369
     cases e369
     replace p369 := eq_true p369
     replace q369 := eq_true q369
     go_wp2
     go_roundg k1
     case measure => have := HK1.out; omega
     case rel => exact ⟨(Int.tmod (wrap64 ((wrap64 ((wrap64 (31 * x3_1)) + (wrap64 (rd l0 x4_1)))) + 7)) 65521), (wrap64 (x4_1 + 1)), (by first | rfl | (simp; done) | (simp [*]; done)), (by first | rfl | (simp; done) | (simp [*]; done)), H', ⟨by have := HK1.out; omega⟩, by repeat (first | exact Drawn0.refl _ | apply Drawn0.step)⟩
    ·rw [if_neg c3] at H
     exact absurd H (by simp)
   ·rw [if_neg c2] at H
    have c2b0 : decide (x4_1 < (l0.length : Int)) = false := decide_eq_false c2
    clear c2
    obtain rfl := Option.some.inj H
    go_wp2
    go_ret
    exact ⟨by first | rfl | (simp; done) | (simp [*]; done), by repeat (first | exact Drawn0.refl _ | apply Drawn0.step)⟩
end Go.Proofs.Ytalimpniimgheaa.Fn
namespace Go.Proofs.Ytalimpniimgheaa.Fn
open Go.RowKit Go.Proofs.YtalimpniimgheaaW.PrintWords Go.Proofs.YtalimpniimgheaaW.PrintLast Go.Proofs.YtalimpniimgheaaW.PrintMore
attribute [local go_sem] max2_int min2_int max_two min_two max_three min_three max_four min_four
set_option linter.unusedVariables false
set_option linter.unusedSimpArgs false
def parcloseref02_power.l0 : Nat → Int → Int → Int → Option (Int)
 | 0, _, _, _ => none
 | k + 1, x0, x3, x4 => if x4 < x0 then (if x4 < 7 then (parcloseref02_power.l0 k x0 (wrap64 (x3 * 256)) (wrap64 (x4 + 1))) else (some x3)) else (some x3)
def parcloseref02_power.f (k : Nat) (a0 : Int) : Option (Int) := parcloseref02_power.l0 k a0 1 0
theorem parcloseref02_power.mono_l : ∀ k, (∀ y0 y1 y2, LeO (parcloseref02_power.l0 k y0 y1 y2) (parcloseref02_power.l0 (k + 1) y0 y1 y2))
 | 0 => fun _ _ _ r h => by simp [parcloseref02_power.l0] at h
 | k + 1 => by
  have ih0 := parcloseref02_power.mono_l k
  ·intro y0 y1 y2
   unfold parcloseref02_power.l0
   repeat' first
   | (with_reducible exact ih0 _ _ _)
   | (with_reducible exact LeO.refl _)
   | (with_reducible exact LeO.none _)
   | (with_reducible refine LeO.ite ?_ ?_)
   | (with_reducible refine LeO.bind ?_ (fun _ => ?_))
   | exact ih0 _ _ _
   | exact LeO.none _
   | refine LeO.ite ?_ ?_
   | refine LeO.bind ?_ (fun _ => ?_)
theorem parcloseref02_power.mono : ∀ a0 k, LeO (parcloseref02_power.f k a0) (parcloseref02_power.f (k + 1) a0) := by
 intro a0 k
 have ih0 := parcloseref02_power.mono_l k
 unfold parcloseref02_power.f
 repeat' first
   | (with_reducible exact ih0 _ _ _)
   | (with_reducible exact LeO.refl _)
   | (with_reducible exact LeO.none _)
   | (with_reducible refine LeO.ite ?_ ?_)
   | (with_reducible refine LeO.bind ?_ (fun _ => ?_))
   | exact ih0 _ _ _
   | exact LeO.none _
   | refine LeO.ite ?_ ?_
   | refine LeO.bind ?_ (fun _ => ?_)
set_option maxHeartbeats 8000000 in
set_option maxRecDepth 100000 in
theorem parcloseref02_power.calls (k : Nat) (a0 : Int) (r : Int) (w : World) (h : parcloseref02_power.f k a0 = some r) :
  Calls Try.prog 124 #[.int .i64 a0] w fun e w' => e = .returned (.int .i64 r) ∧ Drawn0 w w' := by
 have H : (parcloseref02_power.l0 k a0 1 0) = some r := h
 clear h
 have H' := asd H
 clear H
 go_enter Try.func124, Try.ntmps124
 go_wp2
 go_loopg [3, 4] k (fun kq v3 v4 w' => ∃ (x3_1 : Int) (x4_1 : Int), v3 = .int .i64 x3_1 ∧ v4 = .int .i64 x4_1 ∧ Aside0 (parcloseref02_power.l0 kq a0 x3_1 x4_1 = some r) ∧ Aside0 (kq ≤ k) ∧ Drawn0 w w')
 case atStart => exact ⟨(1), (0), (by first | rfl | (simp; done) | (simp [*]; done)), (by first | rfl | (simp; done) | (simp [*]; done)), H', ⟨Nat.le_refl _⟩, by repeat (first | exact Drawn0.refl _ | apply Drawn0.step)⟩
 case round =>
  clear H'
  try clear c1
  obtain ⟨x3_1, x4_1, rfl, rfl, HA, HK1, ⟨m1, rfl⟩⟩ := hrel
  cases gk with
  | zero => exact absurd HA.out (by simp [parcloseref02_power.l0])
  | succ k1 =>
   have H := HA.out
   clear HA
   simp only [parcloseref02_power.l0] at H
   by_cases c2 : x4_1 < a0
   ·rw [if_pos c2] at H
    have c2b0 : decide (x4_1 < a0) = true := decide_eq_true c2
    clear c2
    by_cases c3 : x4_1 < 7
    ·rw [if_pos c3] at H
     have c3b0 : decide (x4_1 < 7) = true := decide_eq_true c3
     clear c3
     have H' := asd H
     clear H
     go_wp2
     go_roundg k1
     case measure => have := HK1.out; omega
     case rel => exact ⟨(wrap64 (x3_1 * 256)), (wrap64 (x4_1 + 1)), (by first | rfl | (simp; done) | (simp [*]; done)), (by first | rfl | (simp; done) | (simp [*]; done)), H', ⟨by have := HK1.out; omega⟩, by repeat (first | exact Drawn0.refl _ | apply Drawn0.step)⟩
    ·rw [if_neg c3] at H
     have c3b0 : decide (x4_1 < 7) = false := decide_eq_false c3
     clear c3
     obtain rfl := Option.some.inj H
     go_wp2
     go_ret
     exact ⟨by first | rfl | (simp; done) | (simp [*]; done), by repeat (first | exact Drawn0.refl _ | apply Drawn0.step)⟩
   ·rw [if_neg c2] at H
    have c2b0 : decide (x4_1 < a0) = false := decide_eq_false c2
    clear c2
    obtain rfl := Option.some.inj H
    go_wp2
    go_ret
    exact ⟨by first | rfl | (simp; done) | (simp [*]; done), by repeat (first | exact Drawn0.refl _ | apply Drawn0.step)⟩
end Go.Proofs.Ytalimpniimgheaa.Fn
namespace Go.Proofs.Ytalimpniimgheaa.Fn
open Go.RowKit Go.Proofs.YtalimpniimgheaaW.PrintWords Go.Proofs.YtalimpniimgheaaW.PrintLast Go.Proofs.YtalimpniimgheaaW.PrintMore
attribute [local go_sem] max2_int min2_int max_two min_two max_three min_three max_four min_four
set_option linter.unusedVariables false
set_option linter.unusedSimpArgs false
def parcloseref02_Number.l0 : Nat → Int → List Int → Int → Option (List Int)
 | 0, _, _, _ => none
 | k + 1, x1, x5, x6 => if x6 ≥ 0 then ((parcloseref02_power.f k x6).bind fun t370 => (if t370 = 0 then (none) else (if x5.length < 140737488355328 then (parcloseref02_Number.l0 k x1 (x5 ++ [(Int.tmod (wrap64 (Int.tdiv x1 t370)) 256) % 256]) (wrap64 (x6 - 1))) else (none)))) else (some x5)
def parcloseref02_Number.f (k : Nat) (a0 : Int) (a1 : Int) : Option (List Int) := parcloseref02_Number.l0 k a1 ([] : List Int) (wrap64 (a0 - 1))
theorem parcloseref02_Number.mono_l : ∀ k, (∀ y0 y1 y2, LeO (parcloseref02_Number.l0 k y0 y1 y2) (parcloseref02_Number.l0 (k + 1) y0 y1 y2))
 | 0 => fun _ _ _ r h => by simp [parcloseref02_Number.l0] at h
 | k + 1 => by
  have ih0 := parcloseref02_Number.mono_l k
  ·intro y0 y1 y2
   unfold parcloseref02_Number.l0
   repeat' first
   | (with_reducible exact ih0 _ _ _)
   | (with_reducible exact parcloseref02_power.mono _ _)
   | (with_reducible exact LeO.refl _)
   | (with_reducible exact LeO.none _)
   | (with_reducible refine LeO.ite ?_ ?_)
   | (with_reducible refine LeO.bind ?_ (fun _ => ?_))
   | exact ih0 _ _ _
   | exact parcloseref02_power.mono _ _
   | exact LeO.none _
   | refine LeO.ite ?_ ?_
   | refine LeO.bind ?_ (fun _ => ?_)
theorem parcloseref02_Number.mono : ∀ a0 a1 k, LeO (parcloseref02_Number.f k a0 a1) (parcloseref02_Number.f (k + 1) a0 a1) := by
 intro a0 a1 k
 have ih0 := parcloseref02_Number.mono_l k
 unfold parcloseref02_Number.f
 repeat' first
   | (with_reducible exact ih0 _ _ _)
   | (with_reducible exact parcloseref02_power.mono _ _)
   | (with_reducible exact LeO.refl _)
   | (with_reducible exact LeO.none _)
   | (with_reducible refine LeO.ite ?_ ?_)
   | (with_reducible refine LeO.bind ?_ (fun _ => ?_))
   | exact ih0 _ _ _
   | exact parcloseref02_power.mono _ _
   | exact LeO.none _
   | refine LeO.ite ?_ ?_
   | refine LeO.bind ?_ (fun _ => ?_)
set_option maxHeartbeats 8000000 in
set_option maxRecDepth 100000 in
theorem parcloseref02_Number.calls (k : Nat) (a0 : Int) (a1 : Int) (r : List Int) (w : World) (h : parcloseref02_Number.f k a0 a1 = some r) :
  Calls Try.prog 93 #[.int .i64 a0, .int .i64 a1] w fun e w' => ∃ v0_ : Value, e = .returned (v0_) ∧ Kd.R (Kd.int .u8) 5 w' w.heap.size (fun _ => True) v0_ r ∧ Below w.heap.size w w' := by
 have HB := asd (Below.refl w.heap.size w)
 have H : (parcloseref02_Number.l0 k a1 ([] : List Int) (wrap64 (a0 - 1))) = some r := h
 clear h
 have H' := asd H
 clear H
 go_enter Try.func93, Try.ntmps93
 go_wp2
 go_loopg [5, 6] k (fun kq v5 v6 w' => ∃ (x5_1 : List Int) (x6_1 : Int), v6 = .int .i64 x6_1 ∧ Aside0 (parcloseref02_Number.l0 kq a1 x5_1 x6_1 = some r) ∧ Aside0 (kq ≤ k) ∧ Aside0 (Kd.R (Kd.int .u8) 5 w' w.heap.size (fun _ => True) v5 x5_1) ∧ Aside0 (Below w.heap.size w w'))
 case atStart => exact ⟨(([] : List Int)), (wrap64 (a0 - 1)), (by first | rfl | (simp; done) | (simp [*]; done)), H', ⟨Nat.le_refl _⟩, ⟨by first | exact Kd.R_nil _ _ _ _ _ | exact Kd.N_nil _ _ _ _ _ | exact Kd.V_nil _ _ _ _ _ | exact Kd.Q_nil _ _ _ _ _ | exact Kd.S_nil _ _ _ _ _⟩, ⟨by repeat (first | (with_reducible first | exact HB.out | apply wa | apply wn | apply wd) | exact HB.out)⟩⟩
 case round =>
  clear H'
  try clear p2
  obtain ⟨x5_1, x6_1, rfl, HA, HK1, HO_5, HB⟩ := hrel
  cases gk with
  | zero => exact absurd HA.out (by simp [parcloseref02_Number.l0])
  | succ k1 =>
   have H := HA.out
   clear HA
   simp only [parcloseref02_Number.l0] at H
   by_cases c3 : x6_1 ≥ 0
   ·rw [if_pos c3] at H
    have c3b0 : decide (0 ≤ x6_1) = true := decide_eq_true c3
    clear c3
    replace H := Option.bind_eq_some_iff.mp H
    obtain ⟨t370, A40, H⟩ := H
    replace H : (if t370 = 0 then (none) else (if x5_1.length < 140737488355328 then (parcloseref02_Number.l0 k1 a1 (x5_1 ++ [(Int.tmod (wrap64 (Int.tdiv a1 t370)) 256) % 256]) (wrap64 (x6_1 - 1))) else (none))) = some r := H
    have A4 := asd A40
    clear A40
    by_cases c5 : t370 = 0
    ·rw [if_pos c5] at H
     exact absurd H (by simp)
    ·rw [if_neg c5] at H
     have c5b0 : (t370 == 0) = false := beq_eq_false_iff_ne.mpr c5
     have c5b1 : (t370 != 0) = true := bne_iff_ne.mpr c5
     by_cases c6 : x5_1.length < 140737488355328
     ·rw [if_pos c6] at H
      have LMc6 := asd c6
      clear c6
      obtain ⟨y371, hy371⟩ : ∃ y_ : List Int, y_ = (x5_1 ++ [(Int.tmod (wrap64 (Int.tdiv a1 t370)) 256) % 256]) := ⟨_, rfl⟩
      replace H : (parcloseref02_Number.l0 k1 a1 y371 (wrap64 (x6_1 - 1))) = some r := by first | (rw [hy371]; with_reducible exact H) | (have H2_ := (Option.bind_some _ _).symm.trans H; rw [hy371]; with_reducible exact H2_) | (have H2_ := (Option.bind_some _ _).symm.trans H; with_reducible exact H2_) | with_reducible exact H | (rw [hy371]; exact H) | exact H
      have Ny371 := asd hy371
      clear hy371
      have H' := asd H
      clear H
      go_wp2_with (first | ((with_reducible refine gate_callee (f := 124) rfl ?_); refine goesL_ (some 16) rfl rfl Try.func124 (by kernel_rfl) rfl #[.int .i64 x6_1] rfl (by (try simp only [List.map_toArray, List.map_cons, List.map_nil]); first | done | rfl | (simp only [List.length_drop, List.length_take]; rfl)) ?_; (with_reducible refine (parcloseref02_power.calls k1 x6_1 t370 _ A4.out).mono ?_); rintro e w' ⟨rfl, ⟨nd, rfl⟩⟩; refine ⟨_, rfl, ?_⟩) | ((with_reducible refine gate_builtin (b := .append) (xs := #[.tmp 13, .tmp 20]) rfl ?_); at_builtin; refine Kd.R_append (Kd.int .u8) (w0 := w) w.heap.size rfl (.tmp 13) (.tmp 20) 78 5 (.int .u8 0) 1 rfl Try.underlying78 info5 rfl (by decide) (by omega) u5 x5_1 ((Int.tmod (wrap64 (Int.tdiv a1 t370)) 256) % 256) [.int .u8 ((Int.tmod (wrap64 (Int.tdiv a1 t370)) 256) % 256)] (fun _ => True) (fun _ => False) rfl rfl ?aP (fun _ hk => hk.elim) ?aF ?aO ?aB ?aS ?aL ?_; (case aP => exact rfl); (case aB => exact (by repeat (first | (with_reducible first | exact HB.out | apply wa | apply wn | apply wd) | exact HB.out))); (case aF => exact (fun _ _ => trivial)); (case aO => exact (by (with_reducible repeat (first | apply Kd.R_alloc | apply Kd.R_drewN | apply Kd.R_drew)); exact HO_5.out)); (case aS => exact (below_size (by repeat (first | (with_reducible first | exact HB.out | apply wa | apply wn | apply wd) | exact HB.out)))); (case aL => have := LMc6.out; omega); intro v372 w7 ho hb hg hat; rw [← Ny371.out] at ho; have n0_ := asd (hb); have n1_ := asd (ho); clear HB; clear HO_5; have HB := n0_; have HO373 := n1_; clear n0_ n1_; clear ho hb hg hat))
      go_roundg k1
      case measure => have := HK1.out; omega
      case rel => exact ⟨(y371), (wrap64 (x6_1 - 1)), (by first | rfl | (simp; done) | (simp [*]; done)), H', ⟨by have := HK1.out; omega⟩, ⟨by (with_reducible repeat (first | apply Kd.R_alloc | apply Kd.R_drewN | apply Kd.R_drew)); exact HO373.out⟩, ⟨by repeat (first | (with_reducible first | exact HB.out | apply wa | apply wn | apply wd) | exact HB.out)⟩⟩
     ·rw [if_neg c6] at H
      exact absurd H (by simp)
   ·rw [if_neg c3] at H
    have c3b0 : decide (0 ≤ x6_1) = false := decide_eq_false c3
    clear c3
    obtain rfl := Option.some.inj H
    go_wp2
    go_ret
    exact ⟨_, by first | rfl | (simp [*] <;> rfl), by (with_reducible repeat (first | apply Kd.R_alloc | apply Kd.R_drewN | apply Kd.R_drew)); exact HO_5.out, by repeat (first | (with_reducible first | exact HB.out | apply wa | apply wn | apply wd) | exact HB.out)⟩
end Go.Proofs.Ytalimpniimgheaa.Fn
namespace Go.Proofs.Ytalimpniimgheaa.Fn
open Go.RowKit Go.Proofs.YtalimpniimgheaaW.PrintWords Go.Proofs.YtalimpniimgheaaW.PrintLast Go.Proofs.YtalimpniimgheaaW.PrintMore
set_option linter.unusedVariables false
set_option linter.unusedSimpArgs false
def lenTab : ByteArray := (⟨#[0, 1, 2, 2, 3, 3, 3, 3, 4, 4, 4, 4, 4, 4, 4, 4, 5, 5, 5, 5, 5, 5, 5, 5, 5, 5, 5, 5, 5, 5, 5, 5, 6, 6, 6, 6, 6, 6, 6, 6, 6, 6, 6, 6, 6, 6, 6, 6, 6, 6, 6, 6, 6, 6, 6, 6, 6, 6, 6, 6, 6, 6, 6, 6, 7, 7, 7, 7, 7, 7, 7, 7, 7, 7, 7, 7, 7, 7, 7, 7, 7, 7, 7, 7, 7, 7, 7, 7, 7, 7, 7, 7, 7, 7, 7, 7, 7, 7, 7, 7, 7, 7, 7, 7, 7, 7, 7, 7, 7, 7, 7, 7, 7, 7, 7, 7, 7, 7, 7, 7, 7, 7, 7, 7, 7, 7, 7, 7, 8, 8, 8, 8, 8, 8, 8, 8, 8, 8, 8, 8, 8, 8, 8, 8, 8, 8, 8, 8, 8, 8, 8, 8, 8, 8, 8, 8, 8, 8, 8, 8, 8, 8, 8, 8, 8, 8, 8, 8, 8, 8, 8, 8, 8, 8, 8, 8, 8, 8, 8, 8, 8, 8, 8, 8, 8, 8, 8, 8, 8, 8, 8, 8, 8, 8, 8, 8, 8, 8, 8, 8, 8, 8, 8, 8, 8, 8, 8, 8, 8, 8, 8, 8, 8, 8, 8, 8, 8, 8, 8, 8, 8, 8, 8, 8, 8, 8, 8, 8, 8, 8, 8, 8, 8, 8, 8, 8, 8, 8, 8, 8, 8, 8, 8, 8, 8, 8, 8, 8, 8, 8, 8, 8, 8, 8, 8, 8]⟩ : ByteArray)
theorem lenTab_all : ∀ i : Fin 256, (i.val < 2 ^ (bt lenTab (i.val : Int)).toNat) ∧ (1 ≤ i.val → 1 ≤ (bt lenTab (i.val : Int)).toNat ∧ 2 ^ ((bt lenTab (i.val : Int)).toNat - 1) ≤ i.val) ∧ (bt lenTab (i.val : Int)).toNat ≤ 8 := by decide +kernel
def HasLen (n r : Nat) : Prop := n < 2 ^ r ∧ (1 ≤ n → 1 ≤ r ∧ 2 ^ (r - 1) ≤ n)
theorem hasLen_shift {n s r : Nat} (h : HasLen (n / 2 ^ s) r) (hp : 1 ≤ n / 2 ^ s) : HasLen n (s + r) := by
 have h2 := h.2 hp
 have hpos : 0 < 2 ^ s := Nat.pow_pos (by omega)
 constructor
 ·rw [Nat.pow_add]
  have := (Nat.div_lt_iff_lt_mul hpos).1 h.1
  rwa [Nat.mul_comm]
 ·intro _
  refine ⟨by omega, ?_⟩
  rw [show s + r - 1 = s + (r - 1) by omega, Nat.pow_add, Nat.mul_comm]
  exact (Nat.le_div_iff_mul_le hpos).1 h2.2
theorem tab_len (i : Nat) (h : i < 256) : ∃ r : Nat, bt lenTab (i : Int) = (r : Int) ∧ r ≤ 8 ∧ HasLen i r := by
 have h1 := lenTab_all ⟨i, h⟩
 have h2 := bt_range lenTab (i : Int)
 exact ⟨(bt lenTab (i : Int)).toNat, by omega, h1.2.2, h1.1, h1.2.1⟩
theorem j0_ex : ∃ T : ByteArray, (∀ x c : Int, bits_Len64.j0 1 x c = if x ≥ 65536 then (if (x / 65536) ≥ 256 then (if 0 ≤ (((x / 65536) / 256) % 256) then (if (((x / 65536) / 256) % 256) < 256 then (some (wrap64 ((wrap64 ((wrap64 (c + 16)) + 8)) + (wrap64 (bt T (((x / 65536) / 256) % 256)))))) else (none)) else (none)) else (if 0 ≤ ((x / 65536) % 256) then (if ((x / 65536) % 256) < 256 then (some (wrap64 ((wrap64 (c + 16)) + (wrap64 (bt T ((x / 65536) % 256)))))) else (none)) else (none))) else (if x ≥ 256 then (if 0 ≤ ((x / 256) % 256) then (if ((x / 256) % 256) < 256 then (some (wrap64 ((wrap64 (c + 8)) + (wrap64 (bt T ((x / 256) % 256)))))) else (none)) else (none)) else (if 0 ≤ ((x) % 256) then (if ((x) % 256) < 256 then (some (wrap64 (c + (wrap64 (bt T ((x) % 256)))))) else (none)) else (none)))) ∧ ∀ i : Nat, i < 256 → ∃ r : Nat, bt T (i : Int) = (r : Int) ∧ r ≤ 8 ∧ HasLen i r := ⟨lenTab, fun x c => rfl, tab_len⟩
theorem w_a (c r : Nat) (hc : c ≤ 32) (hr : r ≤ 8) : wrap64 (wrap64 (wrap64 ((c : Int) + 16) + 8) + wrap64 (r : Int)) = ((c + (16 + (8 + r)) : Nat) : Int) := by unfold wrap64; omega
theorem w_b (c r : Nat) (hc : c ≤ 32) (hr : r ≤ 8) : wrap64 (wrap64 ((c : Int) + 16) + wrap64 (r : Int)) = ((c + (16 + r) : Nat) : Int) := by unfold wrap64; omega
theorem w_c (c r : Nat) (hc : c ≤ 32) (hr : r ≤ 8) : wrap64 (wrap64 ((c : Int) + 8) + wrap64 (r : Int)) = ((c + (8 + r) : Nat) : Int) := by unfold wrap64; omega
theorem w_d (c r : Nat) (hc : c ≤ 32) (hr : r ≤ 8) : wrap64 ((c : Int) + wrap64 (r : Int)) = ((c + r : Nat) : Int) := by unfold wrap64; omega
theorem len_j0 (x : Nat) (c : Nat) (hc : c ≤ 32) (hx : x < 4294967296) : ∃ r : Nat, bits_Len64.j0 1 (x : Int) (c : Int) = some ((c + r : Nat) : Int) ∧ r ≤ 32 ∧ HasLen x r := by
 have e16 : (2 : Nat) ^ 16 = 65536 := by decide
 have e8 : (2 : Nat) ^ 8 = 256 := by decide
 obtain ⟨T, hT, tab_len⟩ := j0_ex
 rw [hT]
 by_cases h1 : x ≥ 65536
 ·rw [if_pos (by omega)]
  by_cases h2 : x / 65536 ≥ 256
  ·obtain ⟨r, hr, h8, hl⟩ := tab_len (x / 65536 / 256) (by omega)
   have e : ((x : Int) / 65536 / 256) % 256 = ((x / 65536 / 256 : Nat) : Int) := by omega
   rw [if_pos (by omega), if_pos (by omega), if_pos (by omega), e]
   refine ⟨16 + (8 + r), ?_, by omega, ?_⟩
   ·rw [hr, w_a c r hc h8]
   ·refine hasLen_shift (s := 16) (hasLen_shift (s := 8) ?_ ?_) ?_
    ·rw [e16, e8]; exact hl
    ·rw [e16, e8]; omega
    ·rw [e16]; omega
  ·obtain ⟨r, hr, h8, hl⟩ := tab_len (x / 65536) (by omega)
   have e : ((x : Int) / 65536) % 256 = ((x / 65536 : Nat) : Int) := by omega
   rw [if_neg (by omega), if_pos (by omega), if_pos (by omega), e]
   refine ⟨16 + r, ?_, by omega, ?_⟩
   ·rw [hr, w_b c r hc h8]
   ·refine hasLen_shift (s := 16) ?_ ?_
    ·rw [e16]; exact hl
    ·rw [e16]; omega
 ·rw [if_neg (by omega)]
  by_cases h2 : x ≥ 256
  ·obtain ⟨r, hr, h8, hl⟩ := tab_len (x / 256) (by omega)
   have e : ((x : Int) / 256) % 256 = ((x / 256 : Nat) : Int) := by omega
   rw [if_pos (by omega), if_pos (by omega), if_pos (by omega), e]
   refine ⟨8 + r, ?_, by omega, ?_⟩
   ·rw [hr, w_c c r hc h8]
   ·refine hasLen_shift (s := 8) ?_ ?_
    ·rw [e8]; exact hl
    ·rw [e8]; omega
  ·obtain ⟨r, hr, h8, hl⟩ := tab_len x (by omega)
   have e : (x : Int) % 256 = (x : Int) := by omega
   rw [if_neg (by omega), if_pos (by omega), if_pos (by omega), e]
   refine ⟨r, ?_, by omega, hl⟩
   rw [hr, w_d c r hc h8]
theorem len_ev (x : Nat) (hx : x < 18446744073709551616) : ∃ r : Nat, bits_Len.f 1 (x : Int) = some (r : Int) ∧ r ≤ 64 ∧ HasLen x r := by
 unfold bits_Len.f bits_Len64.f
 by_cases h : x ≥ 4294967296
 ·obtain ⟨r, hr, h8, hl⟩ := len_j0 (x / 4294967296) 32 (by omega) (by omega)
  have e : (x : Int) / 4294967296 = ((x / 4294967296 : Nat) : Int) := by omega
  have e32 : (2 : Nat) ^ 32 = 4294967296 := by decide
  rw [if_pos (by omega), e]
  have hr2 : bits_Len64.j0 1 ((x / 4294967296 : Nat) : Int) 32 = some ((32 + r : Nat) : Int) := hr
  rw [hr2]
  exact ⟨32 + r, rfl, by omega, hasLen_shift (s := 32) (by rw [e32]; exact hl) (by rw [e32]; omega)⟩
 ·obtain ⟨r, hr, h8, hl⟩ := len_j0 x 0 (by omega) (by omega)
  rw [if_neg (by omega)]
  have hr2 : bits_Len64.j0 1 (x : Int) 0 = some ((0 + r : Nat) : Int) := hr
  rw [hr2]
  exact ⟨r, by simp, by omega, hl⟩
def grN : Nat → Nat → Nat
 | 0, _ => 1
 | k + 1, n => if n ≤ 127 then 1 else grN k (n / 128) + 1
theorem grN_eq : ∀ (m k n : Nat), m ≤ k → 128 ^ m ≤ n → n < 128 ^ (m + 1) → grN k n = m + 1 := by
 intro m
 induction m with
 | zero =>
  intro k n hk h0 h1
  have h2 : n < 128 := by simpa using h1
  cases k with
  | zero => rfl
  | succ k => show (if n ≤ 127 then 1 else _) = 1; rw [if_pos (by omega)]
 | succ m ih =>
  intro k n hk h0 h1
  obtain ⟨k, rfl⟩ : ∃ j, k = j + 1 := ⟨k - 1, by omega⟩
  have hp : 0 < 128 ^ m := Nat.pow_pos (by omega)
  rw [Nat.pow_succ] at h0 h1
  show (if n ≤ 127 then 1 else grN k (n / 128) + 1) = _
  rw [if_neg (by omega), ih k (n / 128) (by omega) ((Nat.le_div_iff_mul_le (by omega)).2 h0) ((Nat.div_lt_iff_lt_mul (by omega)).2 h1)]
theorem grN_small (k n : Nat) (h : n ≤ 127) : grN k n = 1 := by
 cases k with
 | zero => rfl
 | succ k => show (if n ≤ 127 then 1 else _) = 1; rw [if_pos h]
theorem gr_len {n r : Nat} (h : HasLen n r) (h1 : 1 ≤ n) (k : Nat) (hk : r ≤ k) : grN k n = (r + 6) / 7 := by
 have h2 := h.2 h1
 have e := grN_eq ((r + 6) / 7 - 1) k n (by omega)
 have e7 : (128 : Nat) = 2 ^ 7 := by decide
 have hlo : 128 ^ ((r + 6) / 7 - 1) ≤ n := by
  rw [e7, ← Nat.pow_mul]
  exact Nat.le_trans (Nat.pow_le_pow_right (by omega) (by omega)) h2.2
 have hhi : n < 128 ^ ((r + 6) / 7 - 1 + 1) := by
  rw [e7, ← Nat.pow_mul]
  exact Nat.lt_of_lt_of_le h.1 (Nat.pow_le_pow_right (by omega) (by omega))
 rw [e hlo hhi]; omega
theorem psize_ev (n : Int) (h1 : n ≤ 9223372036854775807) (h0 : 0 ≤ n) : pack_Size.f 1 n = some ((grN 64 n.toNat : Nat) : Int) := by
 obtain ⟨x, rfl⟩ := Int.eq_ofNat_of_zero_le h0
 obtain ⟨r, hr, h64, hl⟩ := len_ev x (by omega)
 have eu : IntKind.u64.wrap (x : Int) = (x : Int) := by rw [IntKind.wrap_u64]; omega
 unfold pack_Size.f
 rw [if_neg (by omega), eu, hr]
 simp only [Option.bind_some, Int.toNat_natCast]
 congr 1
 have w1 : wrap64 (wrap64 ((r : Int) + 7) - 1) = (r : Int) + 6 := by unfold wrap64; omega
 rw [w1, Int.tdiv_eq_ediv_of_nonneg (by omega)]
 have w2 : wrap64 (((r : Int) + 6) / 7) = ((r : Int) + 6) / 7 := by unfold wrap64; omega
 rw [w2]
 by_cases hx : 1 ≤ x
 ·have h2 := gr_len hl hx 64 h64
  have h3 := (hl.2 hx).1
  rw [h2]
  unfold mx
  split <;> omega
 ·obtain rfl : x = 0 := by omega
  have hr0 : r = 0 ∨ 1 ≤ r := by omega
  rw [grN_small 64 0 (by omega)]
  have h4 : (r + 6) / 7 ≤ 1 ∨ 2 ≤ (r + 6) / 7 := by omega
  rcases h4 with h4 | h4
  ·unfold mx; split <;> omega
  ·exfalso
   -- the table has no bits at nothing
   have : bits_Len.f 1 ((0 : Nat) : Int) = some 0 := by decide +kernel
   rw [this] at hr
   have := Option.some.inj hr
   omega
theorem rsize_go : ∀ (k n : Nat) (c : Int), n < 128 ^ (k + 1) → 0 ≤ c → c + k ≤ 1000 → n ≤ 9223372036854775807 → ∃ j, parcloseref36_Size.l0 j (n : Int) c = some (c + (grN k n : Nat) - 1) := by
 intro k
 induction k with
 | zero =>
  intro n c hn h0 hc hm
  have hn2 : n < 128 := by simpa using hn
  refine ⟨1, ?_⟩
  unfold parcloseref36_Size.l0
  rw [if_neg (by omega), grN_small 0 n (by omega)]
  congr 1; omega
 | succ k ih =>
  intro n c hn h0 hc hm
  by_cases h : n ≤ 127
  ·refine ⟨1, ?_⟩
   unfold parcloseref36_Size.l0
   rw [if_neg (by omega), grN_small _ n h]
   congr 1; omega
  ·obtain ⟨j, hj⟩ := ih (n / 128) (c + 1) (by rw [Nat.pow_succ] at hn; exact (Nat.div_lt_iff_lt_mul (by omega)).2 hn) (by omega) (by omega) (by omega)
   refine ⟨j + 1, ?_⟩
   have e1 : wrap64 (Int.tdiv (n : Int) 128) = ((n / 128 : Nat) : Int) := by rw [Int.tdiv_eq_ediv_of_nonneg (by omega)]; unfold wrap64; omega
   have e2 : wrap64 (c + 1) = c + 1 := by unfold wrap64; omega
   have e3 : grN (k + 1) n = grN k (n / 128) + 1 := by show (if n ≤ 127 then 1 else _) = _; rw [if_neg h]
   unfold parcloseref36_Size.l0
   rw [if_pos (by omega), e1, e2, hj, e3]
   congr 1; omega
theorem rsize_ev (n : Int) (h1 : n ≤ 9223372036854775807) (h0 : 0 ≤ n) : ∃ k, parcloseref36_Size.f k n = some ((grN 64 n.toNat : Nat) : Int) := by
 obtain ⟨x, rfl⟩ := Int.eq_ofNat_of_zero_le h0
 have e10 : (128 : Nat) ^ 10 = 1180591620717411303424 := by decide
 have hb : x < 128 ^ (64 + 1) := Nat.lt_of_lt_of_le (show x < 128 ^ 10 by omega) (Nat.pow_le_pow_right (by omega) (by omega))
 obtain ⟨j, hj⟩ := rsize_go 64 x 1 hb (by omega) (by omega) (by omega)
 refine ⟨j, ?_⟩
 unfold parcloseref36_Size.f
 rw [if_neg (by omega), hj, Int.toNat_natCast]
 congr 1; omega
def sizeP (n : Int) : Int := if n < 0 then 0 else ((grN 64 n.toNat : Nat) : Int)
theorem psize_all (n : Int) (h : n ≤ 9223372036854775807) : pack_Size.f 1 n = some (sizeP n) := by
 unfold sizeP
 by_cases h0 : n < 0
 ·unfold pack_Size.f; rw [if_pos h0, if_pos h0]
 ·rw [if_neg h0]; exact psize_ev n h (by omega)
theorem rsize_all (n : Int) (h : n ≤ 9223372036854775807) : ∃ k, parcloseref36_Size.f k n = some (sizeP n) := by
 unfold sizeP
 by_cases h0 : n < 0
 ·exact ⟨0, by unfold parcloseref36_Size.f; rw [if_pos h0, if_pos h0]⟩
 ·rw [if_neg h0]; exact rsize_ev n h (by omega)
theorem power_go (s : Nat) (hs : s ≤ 7) : ∀ m (i : Nat), s - i = m → i ≤ s → ∃ k, parcloseref02_power.l0 k (s : Int) (256 ^ i) (i : Int) = some (256 ^ s) := by
 intro m
 induction m with
 | zero =>
  intro i hm hi
  obtain rfl : i = s := by omega
  refine ⟨1, ?_⟩
  unfold parcloseref02_power.l0
  rw [if_neg (by omega)]
 | succ m ih =>
  intro i hm hi
  obtain ⟨k, hk⟩ := ih (i + 1) (by omega) (by omega)
  refine ⟨k + 1, ?_⟩
  have hp := p256_pos i
  have hb : (256 : Int) ^ i ≤ 281474976710656 := by
   rcases (by omega : i = 0 ∨ i = 1 ∨ i = 2 ∨ i = 3 ∨ i = 4 ∨ i = 5 ∨ i = 6) with rfl | rfl | rfl | rfl | rfl | rfl | rfl <;> decide
  rw [Int.pow_succ] at hk
  unfold parcloseref02_power.l0
  rw [if_pos (by omega), if_pos (by omega), pk_w64 i (by omega), show wrap64 (256 ^ i * 256) = 256 ^ i * 256 by unfold wrap64; omega]
  exact hk
theorem power_ev (s : Nat) (hs : s ≤ 7) : ∃ k, parcloseref02_power.f k (s : Int) = some (256 ^ s) := by
 obtain ⟨k, hk⟩ := power_go s hs _ 0 rfl (Nat.zero_le _)
 exact ⟨k, hk⟩
theorem number_go (n : Int) (h0 : 0 ≤ n) (h9 : n ≤ 9223372036854775807) : ∀ (j : Nat) (acc : List Int), j ≤ 7 → acc.length + j ≤ 1000 → ∃ k, parcloseref02_Number.l0 k n acc ((j : Int) - 1) = some (acc ++ numB j n) := by
 intro j
 induction j with
 | zero =>
  intro acc hj ha
  refine ⟨1, ?_⟩
  unfold parcloseref02_Number.l0
  rw [if_neg (by omega)]
  simp [numB]
 | succ j ih =>
  intro acc hj ha
  obtain ⟨k1, hk1⟩ := power_ev j (by omega)
  obtain ⟨k2, hk2⟩ := ih (acc ++ [n / 256 ^ j % 256]) (by omega) (by simp; omega)
  have h1 := at_rounds (g := fun k => parcloseref02_power.f k (j : Int)) (fun k => parcloseref02_power.mono _ k) (Nat.le_add_right k1 k2) hk1
  have h2 := at_rounds (g := fun k => parcloseref02_Number.l0 k n (acc ++ [n / 256 ^ j % 256]) ((j : Int) - 1)) (fun k => parcloseref02_Number.mono_l k _ _ _) (Nat.le_add_left k2 k1) hk2
  refine ⟨k1 + k2 + 1, ?_⟩
  have hp := p256_pos j
  have hd0 : 0 ≤ n / 256 ^ j := Int.ediv_nonneg h0 (Int.le_of_lt hp)
  have hd1 : n / 256 ^ j ≤ n := Int.ediv_le_self _ h0
  unfold parcloseref02_Number.l0
  rw [if_pos (by omega), show ((j + 1 : Nat) : Int) - 1 = (j : Int) by omega]
  rw [show parcloseref02_power.f (k1 + k2) (j : Int) = some (256 ^ j) from h1]
  simp only [Option.bind_some]
  have e1 : Int.tmod (wrap64 (Int.tdiv n (256 ^ j))) 256 % 256 = n / 256 ^ j % 256 := by
   rw [Int.tdiv_eq_ediv_of_nonneg h0]
   generalize n / 256 ^ j = q at hd0 hd1 ⊢
   rw [show wrap64 q = q by unfold wrap64; omega, Int.tmod_eq_emod_of_nonneg hd0]
   omega
  rw [if_neg (by omega), if_pos (by omega), e1, show wrap64 ((j : Int) - 1) = (j : Int) - 1 by unfold wrap64; omega]
  rw [h2, List.append_assoc]; rfl
theorem number_ev (n : Int) (s : Nat) (h0 : 0 ≤ n) (h9 : n ≤ 9223372036854775807) (hs : s ≤ 7) : ∃ k, parcloseref02_Number.f k (s : Int) n = some (numB s n) := by
 obtain ⟨k, hk⟩ := number_go n h0 h9 s [] hs (by simp; omega)
 refine ⟨k, ?_⟩
 unfold parcloseref02_Number.f
 rw [show wrap64 ((s : Int) - 1) = (s : Int) - 1 by unfold wrap64; omega, hk, List.nil_append]
theorem rsum_go (bs : List Int) (hb : Bytes bs) (hl : bs.length ≤ 100000) : ∀ m (i : Nat), bs.length - i = m → i ≤ bs.length → ∃ k, parcloseref36_Sum.l0 k bs (sumP (bs.take i)) (i : Int) = some (sumP bs) := by
 intro m
 induction m with
 | zero =>
  intro i hm hi
  refine ⟨1, ?_⟩
  unfold parcloseref36_Sum.l0
  rw [if_neg (by omega), List.take_of_length_le (by omega)]
 | succ m ih =>
  intro i hm hi
  obtain ⟨k, hk⟩ := ih (i + 1) (by omega) (by omega)
  refine ⟨k + 1, ?_⟩
  have hi2 : i < bs.length := by omega
  have hc := hb (bs.getD i 0) (by rw [getD_lt bs 0 hi2]; exact List.getElem_mem _)
  have hs := sumP_bd (bs.take i)
  have e : sumP (bs.take (i + 1)) = sumS (sumP (bs.take i)) (bs.getD i 0) := by
   rw [List.take_succ_eq_append_getElem hi2]; unfold sumP; rw [List.foldl_append, getD_lt bs 0 hi2]; rfl
  rw [e] at hk
  unfold parcloseref36_Sum.l0
  rw [if_pos (by omega), if_pos (by omega), pk_w64 i (by omega)]
  have e2 : rd bs (i : Int) = bs.getD i 0 := by unfold rd; rw [Int.toNat_natCast]
  rw [e2]
  have e3 : Int.tmod (wrap64 (wrap64 (wrap64 (31 * sumP (bs.take i)) + wrap64 (bs.getD i 0)) + 7)) 65521 = sumS (sumP (bs.take i)) (bs.getD i 0) := by
   have w1 : wrap64 (31 * sumP (bs.take i)) = 31 * sumP (bs.take i) := by unfold wrap64; omega
   have w2 : wrap64 (bs.getD i 0) = bs.getD i 0 := by unfold wrap64; omega
   have w3 : wrap64 (31 * sumP (bs.take i) + bs.getD i 0) = 31 * sumP (bs.take i) + bs.getD i 0 := by unfold wrap64; omega
   have w4 : wrap64 (31 * sumP (bs.take i) + bs.getD i 0 + 7) = 31 * sumP (bs.take i) + bs.getD i 0 + 7 := by unfold wrap64; omega
   rw [w1, w2, w3, w4, Int.tmod_eq_emod_of_nonneg (by omega)]; rfl
  rw [e3]
  exact hk
theorem rsum_ev (bs : List Int) (hb : Bytes bs) (hl : bs.length ≤ 100000) : ∃ k, parcloseref36_Sum.f k bs = some (sumP bs) := rsum_go bs hb hl _ 0 rfl (Nat.zero_le _)
end Go.Proofs.Ytalimpniimgheaa.Fn
namespace Go.Proofs.Ytalimpniimgheaa.Fn
open Go.RowKit Go.Proofs.YtalimpniimgheaaW.PrintWords Go.Proofs.YtalimpniimgheaaW.PrintLast Go.Proofs.YtalimpniimgheaaW.PrintMore
attribute [local go_sem] max2_int min2_int max_two min_two max_three min_three max_four min_four
set_option linter.unusedVariables false
set_option linter.unusedSimpArgs false
mutual
def parcloseref36_Put.l0 : Nat → List (S64) → Int → Option (List Int × Int)
 | 0, _, _ => none
 | k + 1, x0, x4 => if x4 < (x0.length : Int) then (if 0 ≤ x4 then (if ((rd_T64 x0 x4).f1) < 0 then (some (([] : List Int), 2)) else (if ((rd_T64 x0 x4).f1) > 15 then (some (([] : List Int), 2)) else (if ((rd_T64 x0 x4).f0) < 0 then (some (([] : List Int), 2)) else (if ((rd_T64 x0 x4).f0) ≥ 72057594037927936 then (some (([] : List Int), 2)) else (if ((rd_T64 x0 x4).f2) < 0 then (some (([] : List Int), 2)) else (if ((rd_T64 x0 x4).f2) ≥ 72057594037927936 then (some (([] : List Int), 2)) else (if ((rd_T64 x0 x4).f3) < 0 then (some (([] : List Int), 2)) else (if ((rd_T64 x0 x4).f3) ≥ 72057594037927936 then (some (([] : List Int), 2)) else (parcloseref36_Put.l0 k x0 (wrap64 (x4 + 1))))))))))) else (none)) else (if (x0.length : Int) > 65536 then (some (([] : List Int), 11)) else ((parcloseref02_Number.f k 4 (x0.length : Int)).bind fun t376 => (parcloseref36_Put.l1 k x0 t376 0 0)))
def parcloseref36_Put.l1 : Nat → List (S64) → List Int → Int → Int → Option (List Int × Int)
 | 0, _, _, _, _ => none
 | k + 1, x0, x6, x7, x8 => if x8 < (x0.length : Int) then (if 0 ≤ x8 then (if ((rd_T64 x0 x8).f0) = x7 then (parcloseref36_Put.j2 k x0 x6 x8 (wrap64 (((rd_T64 x0 x8).f1) + 64)) ([] : List Int) ((rd_T64 x0 x8).f0) ((rd_T64 x0 x8).f1) ((rd_T64 x0 x8).f2) ((rd_T64 x0 x8).f3)) else (if ((rd_T64 x0 x8).f0) = (wrap64 (x7 + 1)) then (parcloseref36_Put.j2 k x0 x6 x8 (wrap64 (((rd_T64 x0 x8).f1) + 128)) ([] : List Int) ((rd_T64 x0 x8).f0) ((rd_T64 x0 x8).f1) ((rd_T64 x0 x8).f2) ((rd_T64 x0 x8).f3)) else ((parcloseref02_Number.f k 7 ((rd_T64 x0 x8).f0)).bind fun t388 => (if ([] : List Int).length + t388.length < 140737488355328 then (parcloseref36_Put.j2 k x0 x6 x8 ((rd_T64 x0 x8).f1) (([] : List Int) ++ t388) ((rd_T64 x0 x8).f0) ((rd_T64 x0 x8).f1) ((rd_T64 x0 x8).f2) ((rd_T64 x0 x8).f3)) else (none))))) else (none)) else ((parcloseref36_Sum.f k x6).bind fun t379 => ((parcloseref02_Number.f k 2 t379).bind fun t380 => (if x6.length + t380.length < 140737488355328 then (some ((x6 ++ t380), 0)) else (none))))
def parcloseref36_Put.j2 : Nat → List (S64) → List Int → Int → Int → List Int → Int → Int → Int → Int → Option (List Int × Int)
 | 0, _, _, _, _, _, _, _, _, _ => none
 | k + 1, x0, x6, x8, x10, x11, x388000, x388001, x388002, x388003 => if x388002 = 0 then (if x388003 = 0 then (if x6.length < 140737488355328 then ((some (x6 ++ [(wrap64 ((wrap64 (x10 + 16)) + 32)) % 256] : List Int)).bind fun y394 => (if y394.length + x11.length < 140737488355328 then (parcloseref36_Put.l1 k x0 (y394 ++ x11) x388000 (wrap64 (x8 + 1))) else (none))) else (none)) else ((parcloseref02_Number.f k 7 x388003).bind fun t400 => (if x11.length + t400.length < 140737488355328 then ((some (x11 ++ t400 : List Int)).bind fun y403 => (if x6.length < 140737488355328 then ((some (x6 ++ [(wrap64 (x10 + 16)) % 256] : List Int)).bind fun y406 => (if y406.length + y403.length < 140737488355328 then (parcloseref36_Put.l1 k x0 (y406 ++ y403) x388000 (wrap64 (x8 + 1))) else (none))) else (none))) else (none)))) else ((parcloseref02_Number.f k 7 x388002).bind fun t412 => (if x11.length + t412.length < 140737488355328 then ((some (x11 ++ t412 : List Int)).bind fun y415 => (if x388003 = 0 then (if x6.length < 140737488355328 then ((some (x6 ++ [(wrap64 (x10 + 32)) % 256] : List Int)).bind fun y418 => (if y418.length + y415.length < 140737488355328 then (parcloseref36_Put.l1 k x0 (y418 ++ y415) x388000 (wrap64 (x8 + 1))) else (none))) else (none)) else ((parcloseref02_Number.f k 7 x388003).bind fun t424 => (if y415.length + t424.length < 140737488355328 then ((some (y415 ++ t424 : List Int)).bind fun y427 => (if x6.length < 140737488355328 then ((some (x6 ++ [(x10) % 256] : List Int)).bind fun y430 => (if y430.length + y427.length < 140737488355328 then (parcloseref36_Put.l1 k x0 (y430 ++ y427) x388000 (wrap64 (x8 + 1))) else (none))) else (none))) else (none))))) else (none)))
end
def parcloseref36_Put.f (k : Nat) (l0 : List (S64)) : Option (List Int × Int) := parcloseref36_Put.l0 k l0 0
theorem parcloseref36_Put.mono_l : ∀ k, (∀ y0 y1, LeO (parcloseref36_Put.l0 k y0 y1) (parcloseref36_Put.l0 (k + 1) y0 y1)) ∧ (∀ y0 y1 y2 y3, LeO (parcloseref36_Put.l1 k y0 y1 y2 y3) (parcloseref36_Put.l1 (k + 1) y0 y1 y2 y3)) ∧ (∀ y0 y1 y2 y3 y4 y5 y6 y7 y8, LeO (parcloseref36_Put.j2 k y0 y1 y2 y3 y4 y5 y6 y7 y8) (parcloseref36_Put.j2 (k + 1) y0 y1 y2 y3 y4 y5 y6 y7 y8))
 | 0 => ⟨fun _ _ r h => by simp [parcloseref36_Put.l0] at h, fun _ _ _ _ r h => by simp [parcloseref36_Put.l1] at h, fun _ _ _ _ _ _ _ _ _ r h => by simp [parcloseref36_Put.j2] at h⟩
 | k + 1 => by
  obtain ⟨ih0, ih1, ih2⟩ := parcloseref36_Put.mono_l k
  refine ⟨?_, ?_, ?_⟩
  ·intro y0 y1
   unfold parcloseref36_Put.l0
   repeat' first
   | (with_reducible exact ih0 _ _)
   | (with_reducible exact ih1 _ _ _ _)
   | (with_reducible exact ih2 _ _ _ _ _ _ _ _ _)
   | (with_reducible exact parcloseref02_Number.mono _ _ _)
   | (with_reducible exact parcloseref36_Sum.mono _ _)
   | (with_reducible exact LeO.refl _)
   | (with_reducible exact LeO.none _)
   | (with_reducible refine LeO.ite ?_ ?_)
   | (with_reducible refine LeO.bind ?_ (fun _ => ?_))
   | exact ih0 _ _
   | exact ih1 _ _ _ _
   | exact ih2 _ _ _ _ _ _ _ _ _
   | exact parcloseref02_Number.mono _ _ _
   | exact parcloseref36_Sum.mono _ _
   | exact LeO.none _
   | refine LeO.ite ?_ ?_
   | refine LeO.bind ?_ (fun _ => ?_)
  ·intro y0 y1 y2 y3
   unfold parcloseref36_Put.l1
   repeat' first
   | (with_reducible exact ih0 _ _)
   | (with_reducible exact ih1 _ _ _ _)
   | (with_reducible exact ih2 _ _ _ _ _ _ _ _ _)
   | (with_reducible exact parcloseref02_Number.mono _ _ _)
   | (with_reducible exact parcloseref36_Sum.mono _ _)
   | (with_reducible exact LeO.refl _)
   | (with_reducible exact LeO.none _)
   | (with_reducible refine LeO.ite ?_ ?_)
   | (with_reducible refine LeO.bind ?_ (fun _ => ?_))
   | exact ih0 _ _
   | exact ih1 _ _ _ _
   | exact ih2 _ _ _ _ _ _ _ _ _
   | exact parcloseref02_Number.mono _ _ _
   | exact parcloseref36_Sum.mono _ _
   | exact LeO.none _
   | refine LeO.ite ?_ ?_
   | refine LeO.bind ?_ (fun _ => ?_)
  ·intro y0 y1 y2 y3 y4 y5 y6 y7 y8
   unfold parcloseref36_Put.j2
   repeat' first
   | (with_reducible exact ih0 _ _)
   | (with_reducible exact ih1 _ _ _ _)
   | (with_reducible exact ih2 _ _ _ _ _ _ _ _ _)
   | (with_reducible exact parcloseref02_Number.mono _ _ _)
   | (with_reducible exact parcloseref36_Sum.mono _ _)
   | (with_reducible exact LeO.refl _)
   | (with_reducible exact LeO.none _)
   | (with_reducible refine LeO.ite ?_ ?_)
   | (with_reducible refine LeO.bind ?_ (fun _ => ?_))
   | exact ih0 _ _
   | exact ih1 _ _ _ _
   | exact ih2 _ _ _ _ _ _ _ _ _
   | exact parcloseref02_Number.mono _ _ _
   | exact parcloseref36_Sum.mono _ _
   | exact LeO.none _
   | refine LeO.ite ?_ ?_
   | refine LeO.bind ?_ (fun _ => ?_)
set_option maxHeartbeats 8000000 in
set_option maxRecDepth 100000 in
theorem parcloseref36_Put.calls (k : Nat) (A0 : Option Addr) (c0 : Nat) (l0 : List (S64)) (r1 : List Int) (r2 : Int) (w : World) (hr0 : Kd.C k64 w A0 l0.length l0) (hc0 : l0.length ≤ c0) (h : parcloseref36_Put.f k l0 = some (r1, r2)) :
  Calls Try.prog 55 #[.slice A0 l0.length c0] w fun e w' => ∃ v0_ : Value, e = .returned (.tuple #[v0_, .int .i64 r2]) ∧ Kd.R (Kd.int .u8) 5 w' w.heap.size (fun _ => True) v0_ r1 ∧ Below w.heap.size w w' := by
 have hu64 := Try.underlying64
 have HR0 := asd hr0
 have HC0 := asd hc0
 clear hr0 hc0
 have HB := asd (Below.refl w.heap.size w)
 have H : (parcloseref36_Put.l0 k l0 0) = some (r1, r2) := h
 clear h
 have H' := asd H
 clear H
 go_enter Try.func55, Try.ntmps55
 go_wp2
 go_loopg [4] k (fun kq v4 w' => ∃ (x4_1 : Int), v4 = .int .i64 x4_1 ∧ Aside0 (parcloseref36_Put.l0 kq l0 x4_1 = some (r1, r2)) ∧ Aside0 (kq ≤ k) ∧ Aside0 (Below w.heap.size w w'))
 case atStart => exact ⟨(0), (by first | rfl | (simp; done) | (simp [*]; done)), H', ⟨Nat.le_refl _⟩, ⟨by repeat (first | (with_reducible first | exact HB.out | apply wa | apply wn | apply wd) | exact HB.out)⟩⟩
 case round =>
  clear H'
  obtain ⟨x4_1, rfl, HA, HK1, HB⟩ := hrel
  cases gk with
  | zero => exact absurd HA.out (by simp [parcloseref36_Put.l0])
  | succ k1 =>
   have H := HA.out
   clear HA
   simp only [parcloseref36_Put.l0] at H
   by_cases c2 : x4_1 < (l0.length : Int)
   ·rw [if_pos c2] at H
    have c2b0 : decide (x4_1 < (l0.length : Int)) = true := decide_eq_true c2
    clear c2
    by_cases c3 : 0 ≤ x4_1
    ·rw [if_pos c3] at H
     have c3b0 : decide (0 ≤ x4_1) = true := decide_eq_true c3
     clear c3
     by_cases c4 : ((rd_T64 l0 x4_1).f1) < 0
     ·rw [if_pos c4] at H
      have c4b0 : decide (((rd_T64 l0 x4_1).f1) < 0) = true := decide_eq_true c4
      clear c4
      simp only [Option.some.injEq, Prod.mk.injEq] at H
      obtain ⟨rfl, rfl⟩ := H
      have p374 : 0 ≤ (x4_1 : Int) := of_decide_eq_true (by assumption)
      have q374 : x4_1 < (l0.length : Int) := of_decide_eq_true (by assumption)
      obtain ⟨ad374, e374, hx374_0, hx374_1, hx374_2, hx374_3⟩ := at_T64 HR0.out x4_1 p374 q374
      cases e374
      replace hx374_0 := (HB.out.cell (World.block_lt_of_cell? w _ hx374_0)).trans hx374_0
      replace hx374_1 := (HB.out.cell (World.block_lt_of_cell? w _ hx374_1)).trans hx374_1
      replace hx374_2 := (HB.out.cell (World.block_lt_of_cell? w _ hx374_2)).trans hx374_2
      replace hx374_3 := (HB.out.cell (World.block_lt_of_cell? w _ hx374_3)).trans hx374_3
      replace p374 := eq_true p374
      replace q374 := eq_true q374
      go_wp2_with (first | ((with_reducible refine gate_dst (N := 5) rfl ?_); refine box_event ?hg (N := 5) ?hd (cs := #[.int .i64 0, .int .i64 0, .int .i64 0, .int .i64 0]) (t := 64) ?hr ?_; (case hd => rfl); (case hg => rfl); (case hr => first | (go_simp; done) | (go_simp; rfl)); intro gb375 hg w5 hbox hb; have n0_ := asd (below_step (by repeat (first | (with_reducible first | exact HB.out | apply wa | apply wn | apply wd) | exact HB.out)) hb); have n1_ := asd (hbox); have n2_ := asd ((by rw [hg]; exact (below_size (by repeat (first | (with_reducible first | exact HB.out | apply wa | apply wn | apply wd) | exact HB.out))) : w.heap.size ≤ gb375)); have n3_ := asd ((by rw [hg]; exact (below_size (by repeat (first | (with_reducible first | exact HB.out | apply wa | apply wn | apply wd) | exact HB.out))) : w.heap.size ≤ gb375)); clear HB; have HB := n0_; have BK375 := n1_; have GW375 := n2_; have GE375 := n3_; clear n0_ n1_ n2_ n3_; clear hb hbox hg; have hcz6_0 : w5.cell? ⟨gb375, 0, none⟩ = some (.int .i64 0) := (blk_cell BK375.out 0).trans rfl; have hcz6_1 : w5.cell? ⟨gb375, 1, none⟩ = some (.int .i64 0) := (blk_cell BK375.out 1).trans rfl; have hcz6_2 : w5.cell? ⟨gb375, 2, none⟩ = some (.int .i64 0) := (blk_cell BK375.out 2).trans rfl; have hcz6_3 : w5.cell? ⟨gb375, 3, none⟩ = some (.int .i64 0) := (blk_cell BK375.out 3).trans rfl; have hfz6_0 := blk_frozen BK375.out 0; have hfz6_1 := blk_frozen BK375.out 1; have hfz6_2 := blk_frozen BK375.out 2; have hfz6_3 := blk_frozen BK375.out 3))
      go_ret2
      exact ⟨_, by first | rfl | (simp [*] <;> rfl), by first | exact Kd.R_nil _ _ _ _ _ | exact Kd.N_nil _ _ _ _ _ | exact Kd.V_nil _ _ _ _ _ | exact Kd.Q_nil _ _ _ _ _ | exact Kd.S_nil _ _ _ _ _, by repeat (first | (with_reducible first | exact HB.out | apply wa | apply wn | apply wd | refine ws ?_ GE375.out) | exact HB.out)⟩
     ·rw [if_neg c4] at H
      have c4b0 : decide (((rd_T64 l0 x4_1).f1) < 0) = false := decide_eq_false c4
      clear c4
      by_cases c7 : ((rd_T64 l0 x4_1).f1) > 15
      ·rw [if_pos c7] at H
       have c7b0 : decide (15 < ((rd_T64 l0 x4_1).f1)) = true := decide_eq_true c7
       clear c7
       simp only [Option.some.injEq, Prod.mk.injEq] at H
       obtain ⟨rfl, rfl⟩ := H
       have p374 : 0 ≤ (x4_1 : Int) := of_decide_eq_true (by assumption)
       have q374 : x4_1 < (l0.length : Int) := of_decide_eq_true (by assumption)
       obtain ⟨ad374, e374, hx374_0, hx374_1, hx374_2, hx374_3⟩ := at_T64 HR0.out x4_1 p374 q374
       cases e374
       replace hx374_0 := (HB.out.cell (World.block_lt_of_cell? w _ hx374_0)).trans hx374_0
       replace hx374_1 := (HB.out.cell (World.block_lt_of_cell? w _ hx374_1)).trans hx374_1
       replace hx374_2 := (HB.out.cell (World.block_lt_of_cell? w _ hx374_2)).trans hx374_2
       replace hx374_3 := (HB.out.cell (World.block_lt_of_cell? w _ hx374_3)).trans hx374_3
       replace p374 := eq_true p374
       replace q374 := eq_true q374
       go_wp2_with (first | ((with_reducible refine gate_dst (N := 5) rfl ?_); refine box_event ?hg (N := 5) ?hd (cs := #[.int .i64 0, .int .i64 0, .int .i64 0, .int .i64 0]) (t := 64) ?hr ?_; (case hd => rfl); (case hg => rfl); (case hr => first | (go_simp; done) | (go_simp; rfl)); intro gb375 hg w8 hbox hb; have n0_ := asd (below_step (by repeat (first | (with_reducible first | exact HB.out | apply wa | apply wn | apply wd) | exact HB.out)) hb); have n1_ := asd (hbox); have n2_ := asd ((by rw [hg]; exact (below_size (by repeat (first | (with_reducible first | exact HB.out | apply wa | apply wn | apply wd) | exact HB.out))) : w.heap.size ≤ gb375)); have n3_ := asd ((by rw [hg]; exact (below_size (by repeat (first | (with_reducible first | exact HB.out | apply wa | apply wn | apply wd) | exact HB.out))) : w.heap.size ≤ gb375)); clear HB; have HB := n0_; have BK375 := n1_; have GW375 := n2_; have GE375 := n3_; clear n0_ n1_ n2_ n3_; clear hb hbox hg; have hcz9_0 : w8.cell? ⟨gb375, 0, none⟩ = some (.int .i64 0) := (blk_cell BK375.out 0).trans rfl; have hcz9_1 : w8.cell? ⟨gb375, 1, none⟩ = some (.int .i64 0) := (blk_cell BK375.out 1).trans rfl; have hcz9_2 : w8.cell? ⟨gb375, 2, none⟩ = some (.int .i64 0) := (blk_cell BK375.out 2).trans rfl; have hcz9_3 : w8.cell? ⟨gb375, 3, none⟩ = some (.int .i64 0) := (blk_cell BK375.out 3).trans rfl; have hfz9_0 := blk_frozen BK375.out 0; have hfz9_1 := blk_frozen BK375.out 1; have hfz9_2 := blk_frozen BK375.out 2; have hfz9_3 := blk_frozen BK375.out 3))
       go_ret2
       exact ⟨_, by first | rfl | (simp [*] <;> rfl), by first | exact Kd.R_nil _ _ _ _ _ | exact Kd.N_nil _ _ _ _ _ | exact Kd.V_nil _ _ _ _ _ | exact Kd.Q_nil _ _ _ _ _ | exact Kd.S_nil _ _ _ _ _, by repeat (first | (with_reducible first | exact HB.out | apply wa | apply wn | apply wd | refine ws ?_ GE375.out) | exact HB.out)⟩
      ·rw [if_neg c7] at H
       have c7b0 : decide (15 < ((rd_T64 l0 x4_1).f1)) = false := decide_eq_false c7
       clear c7
       by_cases c10 : ((rd_T64 l0 x4_1).f0) < 0
       ·rw [if_pos c10] at H
        have c10b0 : decide (((rd_T64 l0 x4_1).f0) < 0) = true := decide_eq_true c10
        clear c10
        simp only [Option.some.injEq, Prod.mk.injEq] at H
        obtain ⟨rfl, rfl⟩ := H
        have p374 : 0 ≤ (x4_1 : Int) := of_decide_eq_true (by assumption)
        have q374 : x4_1 < (l0.length : Int) := of_decide_eq_true (by assumption)
        obtain ⟨ad374, e374, hx374_0, hx374_1, hx374_2, hx374_3⟩ := at_T64 HR0.out x4_1 p374 q374
        cases e374
        replace hx374_0 := (HB.out.cell (World.block_lt_of_cell? w _ hx374_0)).trans hx374_0
        replace hx374_1 := (HB.out.cell (World.block_lt_of_cell? w _ hx374_1)).trans hx374_1
        replace hx374_2 := (HB.out.cell (World.block_lt_of_cell? w _ hx374_2)).trans hx374_2
        replace hx374_3 := (HB.out.cell (World.block_lt_of_cell? w _ hx374_3)).trans hx374_3
        replace p374 := eq_true p374
        replace q374 := eq_true q374
        go_wp2_with (first | ((with_reducible refine gate_dst (N := 5) rfl ?_); refine box_event ?hg (N := 5) ?hd (cs := #[.int .i64 0, .int .i64 0, .int .i64 0, .int .i64 0]) (t := 64) ?hr ?_; (case hd => rfl); (case hg => rfl); (case hr => first | (go_simp; done) | (go_simp; rfl)); intro gb375 hg w11 hbox hb; have n0_ := asd (below_step (by repeat (first | (with_reducible first | exact HB.out | apply wa | apply wn | apply wd) | exact HB.out)) hb); have n1_ := asd (hbox); have n2_ := asd ((by rw [hg]; exact (below_size (by repeat (first | (with_reducible first | exact HB.out | apply wa | apply wn | apply wd) | exact HB.out))) : w.heap.size ≤ gb375)); have n3_ := asd ((by rw [hg]; exact (below_size (by repeat (first | (with_reducible first | exact HB.out | apply wa | apply wn | apply wd) | exact HB.out))) : w.heap.size ≤ gb375)); clear HB; have HB := n0_; have BK375 := n1_; have GW375 := n2_; have GE375 := n3_; clear n0_ n1_ n2_ n3_; clear hb hbox hg; have hcz12_0 : w11.cell? ⟨gb375, 0, none⟩ = some (.int .i64 0) := (blk_cell BK375.out 0).trans rfl; have hcz12_1 : w11.cell? ⟨gb375, 1, none⟩ = some (.int .i64 0) := (blk_cell BK375.out 1).trans rfl; have hcz12_2 : w11.cell? ⟨gb375, 2, none⟩ = some (.int .i64 0) := (blk_cell BK375.out 2).trans rfl; have hcz12_3 : w11.cell? ⟨gb375, 3, none⟩ = some (.int .i64 0) := (blk_cell BK375.out 3).trans rfl; have hfz12_0 := blk_frozen BK375.out 0; have hfz12_1 := blk_frozen BK375.out 1; have hfz12_2 := blk_frozen BK375.out 2; have hfz12_3 := blk_frozen BK375.out 3))
        go_ret2
        exact ⟨_, by first | rfl | (simp [*] <;> rfl), by first | exact Kd.R_nil _ _ _ _ _ | exact Kd.N_nil _ _ _ _ _ | exact Kd.V_nil _ _ _ _ _ | exact Kd.Q_nil _ _ _ _ _ | exact Kd.S_nil _ _ _ _ _, by repeat (first | (with_reducible first | exact HB.out | apply wa | apply wn | apply wd | refine ws ?_ GE375.out) | exact HB.out)⟩
       ·rw [if_neg c10] at H
        have c10b0 : decide (((rd_T64 l0 x4_1).f0) < 0) = false := decide_eq_false c10
        clear c10
        by_cases c13 : ((rd_T64 l0 x4_1).f0) ≥ 72057594037927936
        ·rw [if_pos c13] at H
         have c13b0 : decide (72057594037927936 ≤ ((rd_T64 l0 x4_1).f0)) = true := decide_eq_true c13
         clear c13
         simp only [Option.some.injEq, Prod.mk.injEq] at H
         obtain ⟨rfl, rfl⟩ := H
         have p374 : 0 ≤ (x4_1 : Int) := of_decide_eq_true (by assumption)
         have q374 : x4_1 < (l0.length : Int) := of_decide_eq_true (by assumption)
         obtain ⟨ad374, e374, hx374_0, hx374_1, hx374_2, hx374_3⟩ := at_T64 HR0.out x4_1 p374 q374
         cases e374
         replace hx374_0 := (HB.out.cell (World.block_lt_of_cell? w _ hx374_0)).trans hx374_0
         replace hx374_1 := (HB.out.cell (World.block_lt_of_cell? w _ hx374_1)).trans hx374_1
         replace hx374_2 := (HB.out.cell (World.block_lt_of_cell? w _ hx374_2)).trans hx374_2
         replace hx374_3 := (HB.out.cell (World.block_lt_of_cell? w _ hx374_3)).trans hx374_3
         replace p374 := eq_true p374
         replace q374 := eq_true q374
         go_wp2_with (first | ((with_reducible refine gate_dst (N := 5) rfl ?_); refine box_event ?hg (N := 5) ?hd (cs := #[.int .i64 0, .int .i64 0, .int .i64 0, .int .i64 0]) (t := 64) ?hr ?_; (case hd => rfl); (case hg => rfl); (case hr => first | (go_simp; done) | (go_simp; rfl)); intro gb375 hg w14 hbox hb; have n0_ := asd (below_step (by repeat (first | (with_reducible first | exact HB.out | apply wa | apply wn | apply wd) | exact HB.out)) hb); have n1_ := asd (hbox); have n2_ := asd ((by rw [hg]; exact (below_size (by repeat (first | (with_reducible first | exact HB.out | apply wa | apply wn | apply wd) | exact HB.out))) : w.heap.size ≤ gb375)); have n3_ := asd ((by rw [hg]; exact (below_size (by repeat (first | (with_reducible first | exact HB.out | apply wa | apply wn | apply wd) | exact HB.out))) : w.heap.size ≤ gb375)); clear HB; have HB := n0_; have BK375 := n1_; have GW375 := n2_; have GE375 := n3_; clear n0_ n1_ n2_ n3_; clear hb hbox hg; have hcz15_0 : w14.cell? ⟨gb375, 0, none⟩ = some (.int .i64 0) := (blk_cell BK375.out 0).trans rfl; have hcz15_1 : w14.cell? ⟨gb375, 1, none⟩ = some (.int .i64 0) := (blk_cell BK375.out 1).trans rfl; have hcz15_2 : w14.cell? ⟨gb375, 2, none⟩ = some (.int .i64 0) := (blk_cell BK375.out 2).trans rfl; have hcz15_3 : w14.cell? ⟨gb375, 3, none⟩ = some (.int .i64 0) := (blk_cell BK375.out 3).trans rfl; have hfz15_0 := blk_frozen BK375.out 0; have hfz15_1 := blk_frozen BK375.out 1; have hfz15_2 := blk_frozen BK375.out 2; have hfz15_3 := blk_frozen BK375.out 3))
         go_ret2
         exact ⟨_, by first | rfl | (simp [*] <;> rfl), by first | exact Kd.R_nil _ _ _ _ _ | exact Kd.N_nil _ _ _ _ _ | exact Kd.V_nil _ _ _ _ _ | exact Kd.Q_nil _ _ _ _ _ | exact Kd.S_nil _ _ _ _ _, by repeat (first | (with_reducible first | exact HB.out | apply wa | apply wn | apply wd | refine ws ?_ GE375.out) | exact HB.out)⟩
        ·rw [if_neg c13] at H
         have c13b0 : decide (72057594037927936 ≤ ((rd_T64 l0 x4_1).f0)) = false := decide_eq_false c13
         clear c13
         by_cases c16 : ((rd_T64 l0 x4_1).f2) < 0
         ·rw [if_pos c16] at H
          have c16b0 : decide (((rd_T64 l0 x4_1).f2) < 0) = true := decide_eq_true c16
          clear c16
          simp only [Option.some.injEq, Prod.mk.injEq] at H
          obtain ⟨rfl, rfl⟩ := H
          have p374 : 0 ≤ (x4_1 : Int) := of_decide_eq_true (by assumption)
          have q374 : x4_1 < (l0.length : Int) := of_decide_eq_true (by assumption)
          obtain ⟨ad374, e374, hx374_0, hx374_1, hx374_2, hx374_3⟩ := at_T64 HR0.out x4_1 p374 q374
          cases e374
          replace hx374_0 := (HB.out.cell (World.block_lt_of_cell? w _ hx374_0)).trans hx374_0
          replace hx374_1 := (HB.out.cell (World.block_lt_of_cell? w _ hx374_1)).trans hx374_1
          replace hx374_2 := (HB.out.cell (World.block_lt_of_cell? w _ hx374_2)).trans hx374_2
          replace hx374_3 := (HB.out.cell (World.block_lt_of_cell? w _ hx374_3)).trans hx374_3
          replace p374 := eq_true p374
          replace q374 := eq_true q374
          go_wp2_with (first | ((with_reducible refine gate_dst (N := 5) rfl ?_); refine box_event ?hg (N := 5) ?hd (cs := #[.int .i64 0, .int .i64 0, .int .i64 0, .int .i64 0]) (t := 64) ?hr ?_; (case hd => rfl); (case hg => rfl); (case hr => first | (go_simp; done) | (go_simp; rfl)); intro gb375 hg w17 hbox hb; have n0_ := asd (below_step (by repeat (first | (with_reducible first | exact HB.out | apply wa | apply wn | apply wd) | exact HB.out)) hb); have n1_ := asd (hbox); have n2_ := asd ((by rw [hg]; exact (below_size (by repeat (first | (with_reducible first | exact HB.out | apply wa | apply wn | apply wd) | exact HB.out))) : w.heap.size ≤ gb375)); have n3_ := asd ((by rw [hg]; exact (below_size (by repeat (first | (with_reducible first | exact HB.out | apply wa | apply wn | apply wd) | exact HB.out))) : w.heap.size ≤ gb375)); clear HB; have HB := n0_; have BK375 := n1_; have GW375 := n2_; have GE375 := n3_; clear n0_ n1_ n2_ n3_; clear hb hbox hg; have hcz18_0 : w17.cell? ⟨gb375, 0, none⟩ = some (.int .i64 0) := (blk_cell BK375.out 0).trans rfl; have hcz18_1 : w17.cell? ⟨gb375, 1, none⟩ = some (.int .i64 0) := (blk_cell BK375.out 1).trans rfl; have hcz18_2 : w17.cell? ⟨gb375, 2, none⟩ = some (.int .i64 0) := (blk_cell BK375.out 2).trans rfl; have hcz18_3 : w17.cell? ⟨gb375, 3, none⟩ = some (.int .i64 0) := (blk_cell BK375.out 3).trans rfl; have hfz18_0 := blk_frozen BK375.out 0; have hfz18_1 := blk_frozen BK375.out 1; have hfz18_2 := blk_frozen BK375.out 2; have hfz18_3 := blk_frozen BK375.out 3))
          go_ret2
          exact ⟨_, by first | rfl | (simp [*] <;> rfl), by first | exact Kd.R_nil _ _ _ _ _ | exact Kd.N_nil _ _ _ _ _ | exact Kd.V_nil _ _ _ _ _ | exact Kd.Q_nil _ _ _ _ _ | exact Kd.S_nil _ _ _ _ _, by repeat (first | (with_reducible first | exact HB.out | apply wa | apply wn | apply wd | refine ws ?_ GE375.out) | exact HB.out)⟩
         ·rw [if_neg c16] at H
          have c16b0 : decide (((rd_T64 l0 x4_1).f2) < 0) = false := decide_eq_false c16
          clear c16
          by_cases c19 : ((rd_T64 l0 x4_1).f2) ≥ 72057594037927936
          ·rw [if_pos c19] at H
           have c19b0 : decide (72057594037927936 ≤ ((rd_T64 l0 x4_1).f2)) = true := decide_eq_true c19
           clear c19
           simp only [Option.some.injEq, Prod.mk.injEq] at H
           obtain ⟨rfl, rfl⟩ := H
           have p374 : 0 ≤ (x4_1 : Int) := of_decide_eq_true (by assumption)
           have q374 : x4_1 < (l0.length : Int) := of_decide_eq_true (by assumption)
           obtain ⟨ad374, e374, hx374_0, hx374_1, hx374_2, hx374_3⟩ := at_T64 HR0.out x4_1 p374 q374
           cases e374
           replace hx374_0 := (HB.out.cell (World.block_lt_of_cell? w _ hx374_0)).trans hx374_0
           replace hx374_1 := (HB.out.cell (World.block_lt_of_cell? w _ hx374_1)).trans hx374_1
           replace hx374_2 := (HB.out.cell (World.block_lt_of_cell? w _ hx374_2)).trans hx374_2
           replace hx374_3 := (HB.out.cell (World.block_lt_of_cell? w _ hx374_3)).trans hx374_3
           replace p374 := eq_true p374
           replace q374 := eq_true q374
           go_wp2_with (first | ((with_reducible refine gate_dst (N := 5) rfl ?_); refine box_event ?hg (N := 5) ?hd (cs := #[.int .i64 0, .int .i64 0, .int .i64 0, .int .i64 0]) (t := 64) ?hr ?_; (case hd => rfl); (case hg => rfl); (case hr => first | (go_simp; done) | (go_simp; rfl)); intro gb375 hg w20 hbox hb; have n0_ := asd (below_step (by repeat (first | (with_reducible first | exact HB.out | apply wa | apply wn | apply wd) | exact HB.out)) hb); have n1_ := asd (hbox); have n2_ := asd ((by rw [hg]; exact (below_size (by repeat (first | (with_reducible first | exact HB.out | apply wa | apply wn | apply wd) | exact HB.out))) : w.heap.size ≤ gb375)); have n3_ := asd ((by rw [hg]; exact (below_size (by repeat (first | (with_reducible first | exact HB.out | apply wa | apply wn | apply wd) | exact HB.out))) : w.heap.size ≤ gb375)); clear HB; have HB := n0_; have BK375 := n1_; have GW375 := n2_; have GE375 := n3_; clear n0_ n1_ n2_ n3_; clear hb hbox hg; have hcz21_0 : w20.cell? ⟨gb375, 0, none⟩ = some (.int .i64 0) := (blk_cell BK375.out 0).trans rfl; have hcz21_1 : w20.cell? ⟨gb375, 1, none⟩ = some (.int .i64 0) := (blk_cell BK375.out 1).trans rfl; have hcz21_2 : w20.cell? ⟨gb375, 2, none⟩ = some (.int .i64 0) := (blk_cell BK375.out 2).trans rfl; have hcz21_3 : w20.cell? ⟨gb375, 3, none⟩ = some (.int .i64 0) := (blk_cell BK375.out 3).trans rfl; have hfz21_0 := blk_frozen BK375.out 0; have hfz21_1 := blk_frozen BK375.out 1; have hfz21_2 := blk_frozen BK375.out 2; have hfz21_3 := blk_frozen BK375.out 3))
           go_ret2
           exact ⟨_, by first | rfl | (simp [*] <;> rfl), by first | exact Kd.R_nil _ _ _ _ _ | exact Kd.N_nil _ _ _ _ _ | exact Kd.V_nil _ _ _ _ _ | exact Kd.Q_nil _ _ _ _ _ | exact Kd.S_nil _ _ _ _ _, by repeat (first | (with_reducible first | exact HB.out | apply wa | apply wn | apply wd | refine ws ?_ GE375.out) | exact HB.out)⟩
          ·rw [if_neg c19] at H
           have c19b0 : decide (72057594037927936 ≤ ((rd_T64 l0 x4_1).f2)) = false := decide_eq_false c19
           clear c19
           by_cases c22 : ((rd_T64 l0 x4_1).f3) < 0
           ·rw [if_pos c22] at H
            have c22b0 : decide (((rd_T64 l0 x4_1).f3) < 0) = true := decide_eq_true c22
            clear c22
            simp only [Option.some.injEq, Prod.mk.injEq] at H
            obtain ⟨rfl, rfl⟩ := H
            have p374 : 0 ≤ (x4_1 : Int) := of_decide_eq_true (by assumption)
            have q374 : x4_1 < (l0.length : Int) := of_decide_eq_true (by assumption)
            obtain ⟨ad374, e374, hx374_0, hx374_1, hx374_2, hx374_3⟩ := at_T64 HR0.out x4_1 p374 q374
            cases e374
            replace hx374_0 := (HB.out.cell (World.block_lt_of_cell? w _ hx374_0)).trans hx374_0
            replace hx374_1 := (HB.out.cell (World.block_lt_of_cell? w _ hx374_1)).trans hx374_1
            replace hx374_2 := (HB.out.cell (World.block_lt_of_cell? w _ hx374_2)).trans hx374_2
            replace hx374_3 := (HB.out.cell (World.block_lt_of_cell? w _ hx374_3)).trans hx374_3
            replace p374 := eq_true p374
            replace q374 := eq_true q374
            go_wp2_with (first | ((with_reducible refine gate_dst (N := 5) rfl ?_); refine box_event ?hg (N := 5) ?hd (cs := #[.int .i64 0, .int .i64 0, .int .i64 0, .int .i64 0]) (t := 64) ?hr ?_; (case hd => rfl); (case hg => rfl); (case hr => first | (go_simp; done) | (go_simp; rfl)); intro gb375 hg w23 hbox hb; have n0_ := asd (below_step (by repeat (first | (with_reducible first | exact HB.out | apply wa | apply wn | apply wd) | exact HB.out)) hb); have n1_ := asd (hbox); have n2_ := asd ((by rw [hg]; exact (below_size (by repeat (first | (with_reducible first | exact HB.out | apply wa | apply wn | apply wd) | exact HB.out))) : w.heap.size ≤ gb375)); have n3_ := asd ((by rw [hg]; exact (below_size (by repeat (first | (with_reducible first | exact HB.out | apply wa | apply wn | apply wd) | exact HB.out))) : w.heap.size ≤ gb375)); clear HB; have HB := n0_; have BK375 := n1_; have GW375 := n2_; have GE375 := n3_; clear n0_ n1_ n2_ n3_; clear hb hbox hg; have hcz24_0 : w23.cell? ⟨gb375, 0, none⟩ = some (.int .i64 0) := (blk_cell BK375.out 0).trans rfl; have hcz24_1 : w23.cell? ⟨gb375, 1, none⟩ = some (.int .i64 0) := (blk_cell BK375.out 1).trans rfl; have hcz24_2 : w23.cell? ⟨gb375, 2, none⟩ = some (.int .i64 0) := (blk_cell BK375.out 2).trans rfl; have hcz24_3 : w23.cell? ⟨gb375, 3, none⟩ = some (.int .i64 0) := (blk_cell BK375.out 3).trans rfl; have hfz24_0 := blk_frozen BK375.out 0; have hfz24_1 := blk_frozen BK375.out 1; have hfz24_2 := blk_frozen BK375.out 2; have hfz24_3 := blk_frozen BK375.out 3))
            go_ret2
            exact ⟨_, by first | rfl | (simp [*] <;> rfl), by first | exact Kd.R_nil _ _ _ _ _ | exact Kd.N_nil _ _ _ _ _ | exact Kd.V_nil _ _ _ _ _ | exact Kd.Q_nil _ _ _ _ _ | exact Kd.S_nil _ _ _ _ _, by repeat (first | (with_reducible first | exact HB.out | apply wa | apply wn | apply wd | refine ws ?_ GE375.out) | exact HB.out)⟩
           ·rw [if_neg c22] at H
            have c22b0 : decide (((rd_T64 l0 x4_1).f3) < 0) = false := decide_eq_false c22
            clear c22
            by_cases c25 : ((rd_T64 l0 x4_1).f3) ≥ 72057594037927936
            ·rw [if_pos c25] at H
             have c25b0 : decide (72057594037927936 ≤ ((rd_T64 l0 x4_1).f3)) = true := decide_eq_true c25
             clear c25
             simp only [Option.some.injEq, Prod.mk.injEq] at H
             obtain ⟨rfl, rfl⟩ := H
             have p374 : 0 ≤ (x4_1 : Int) := of_decide_eq_true (by assumption)
             have q374 : x4_1 < (l0.length : Int) := of_decide_eq_true (by assumption)
             obtain ⟨ad374, e374, hx374_0, hx374_1, hx374_2, hx374_3⟩ := at_T64 HR0.out x4_1 p374 q374
             cases e374
             replace hx374_0 := (HB.out.cell (World.block_lt_of_cell? w _ hx374_0)).trans hx374_0
             replace hx374_1 := (HB.out.cell (World.block_lt_of_cell? w _ hx374_1)).trans hx374_1
             replace hx374_2 := (HB.out.cell (World.block_lt_of_cell? w _ hx374_2)).trans hx374_2
             replace hx374_3 := (HB.out.cell (World.block_lt_of_cell? w _ hx374_3)).trans hx374_3
             replace p374 := eq_true p374
             replace q374 := eq_true q374
             go_wp2_with (first | ((with_reducible refine gate_dst (N := 5) rfl ?_); refine box_event ?hg (N := 5) ?hd (cs := #[.int .i64 0, .int .i64 0, .int .i64 0, .int .i64 0]) (t := 64) ?hr ?_; (case hd => rfl); (case hg => rfl); (case hr => first | (go_simp; done) | (go_simp; rfl)); intro gb375 hg w26 hbox hb; have n0_ := asd (below_step (by repeat (first | (with_reducible first | exact HB.out | apply wa | apply wn | apply wd) | exact HB.out)) hb); have n1_ := asd (hbox); have n2_ := asd ((by rw [hg]; exact (below_size (by repeat (first | (with_reducible first | exact HB.out | apply wa | apply wn | apply wd) | exact HB.out))) : w.heap.size ≤ gb375)); have n3_ := asd ((by rw [hg]; exact (below_size (by repeat (first | (with_reducible first | exact HB.out | apply wa | apply wn | apply wd) | exact HB.out))) : w.heap.size ≤ gb375)); clear HB; have HB := n0_; have BK375 := n1_; have GW375 := n2_; have GE375 := n3_; clear n0_ n1_ n2_ n3_; clear hb hbox hg; have hcz27_0 : w26.cell? ⟨gb375, 0, none⟩ = some (.int .i64 0) := (blk_cell BK375.out 0).trans rfl; have hcz27_1 : w26.cell? ⟨gb375, 1, none⟩ = some (.int .i64 0) := (blk_cell BK375.out 1).trans rfl; have hcz27_2 : w26.cell? ⟨gb375, 2, none⟩ = some (.int .i64 0) := (blk_cell BK375.out 2).trans rfl; have hcz27_3 : w26.cell? ⟨gb375, 3, none⟩ = some (.int .i64 0) := (blk_cell BK375.out 3).trans rfl; have hfz27_0 := blk_frozen BK375.out 0; have hfz27_1 := blk_frozen BK375.out 1; have hfz27_2 := blk_frozen BK375.out 2; have hfz27_3 := blk_frozen BK375.out 3))
             go_ret2
             exact ⟨_, by first | rfl | (simp [*] <;> rfl), by first | exact Kd.R_nil _ _ _ _ _ | exact Kd.N_nil _ _ _ _ _ | exact Kd.V_nil _ _ _ _ _ | exact Kd.Q_nil _ _ _ _ _ | exact Kd.S_nil _ _ _ _ _, by repeat (first | (with_reducible first | exact HB.out | apply wa | apply wn | apply wd | refine ws ?_ GE375.out) | exact HB.out)⟩
            ·rw [if_neg c25] at H
             have c25b0 : decide (72057594037927936 ≤ ((rd_T64 l0 x4_1).f3)) = false := decide_eq_false c25
             clear c25
             have H' := asd H
             clear H
             have p374 : 0 ≤ (x4_1 : Int) := of_decide_eq_true (by assumption)
             have q374 : x4_1 < (l0.length : Int) := of_decide_eq_true (by assumption)
             obtain ⟨ad374, e374, hx374_0, hx374_1, hx374_2, hx374_3⟩ := at_T64 HR0.out x4_1 p374 q374
             cases e374
             replace hx374_0 := (HB.out.cell (World.block_lt_of_cell? w _ hx374_0)).trans hx374_0
             replace hx374_1 := (HB.out.cell (World.block_lt_of_cell? w _ hx374_1)).trans hx374_1
             replace hx374_2 := (HB.out.cell (World.block_lt_of_cell? w _ hx374_2)).trans hx374_2
             replace hx374_3 := (HB.out.cell (World.block_lt_of_cell? w _ hx374_3)).trans hx374_3
             replace p374 := eq_true p374
             replace q374 := eq_true q374
             go_wp2_with (first | ((with_reducible refine gate_dst (N := 5) rfl ?_); refine box_event ?hg (N := 5) ?hd (cs := #[.int .i64 0, .int .i64 0, .int .i64 0, .int .i64 0]) (t := 64) ?hr ?_; (case hd => rfl); (case hg => rfl); (case hr => first | (go_simp; done) | (go_simp; rfl)); intro gb375 hg w28 hbox hb; have n0_ := asd (below_step (by repeat (first | (with_reducible first | exact HB.out | apply wa | apply wn | apply wd) | exact HB.out)) hb); have n1_ := asd (hbox); have n2_ := asd ((by rw [hg]; exact (below_size (by repeat (first | (with_reducible first | exact HB.out | apply wa | apply wn | apply wd) | exact HB.out))) : w.heap.size ≤ gb375)); have n3_ := asd ((by rw [hg]; exact (below_size (by repeat (first | (with_reducible first | exact HB.out | apply wa | apply wn | apply wd) | exact HB.out))) : w.heap.size ≤ gb375)); clear HB; have HB := n0_; have BK375 := n1_; have GW375 := n2_; have GE375 := n3_; clear n0_ n1_ n2_ n3_; clear hb hbox hg; have hcz29_0 : w28.cell? ⟨gb375, 0, none⟩ = some (.int .i64 0) := (blk_cell BK375.out 0).trans rfl; have hcz29_1 : w28.cell? ⟨gb375, 1, none⟩ = some (.int .i64 0) := (blk_cell BK375.out 1).trans rfl; have hcz29_2 : w28.cell? ⟨gb375, 2, none⟩ = some (.int .i64 0) := (blk_cell BK375.out 2).trans rfl; have hcz29_3 : w28.cell? ⟨gb375, 3, none⟩ = some (.int .i64 0) := (blk_cell BK375.out 3).trans rfl; have hfz29_0 := blk_frozen BK375.out 0; have hfz29_1 := blk_frozen BK375.out 1; have hfz29_2 := blk_frozen BK375.out 2; have hfz29_3 := blk_frozen BK375.out 3))
             go_roundg k1
             case measure => have := HK1.out; omega
             case rel => exact ⟨(wrap64 (x4_1 + 1)), (by first | rfl | (simp; done) | (simp [*]; done)), H', ⟨by have := HK1.out; omega⟩, ⟨by repeat (first | (with_reducible first | exact HB.out | apply wa | apply wn | apply wd | refine ws ?_ GE375.out) | exact HB.out)⟩⟩
    ·rw [if_neg c3] at H
     exact absurd H (by simp)
   ·rw [if_neg c2] at H
    have c2b0 : decide (x4_1 < (l0.length : Int)) = false := decide_eq_false c2
    clear c2
    by_cases c30 : (l0.length : Int) > 65536
    ·rw [if_pos c30] at H
     have c30b0 : decide (65536 < (l0.length : Int)) = true := decide_eq_true c30
     have c30b1 : decide (65536 < l0.length) = true := decide_eq_true (by omega)
     clear c30
     simp only [Option.some.injEq, Prod.mk.injEq] at H
     obtain ⟨rfl, rfl⟩ := H
     go_wp2
     go_ret2
     exact ⟨_, by first | rfl | (simp [*] <;> rfl), by first | exact Kd.R_nil _ _ _ _ _ | exact Kd.N_nil _ _ _ _ _ | exact Kd.V_nil _ _ _ _ _ | exact Kd.Q_nil _ _ _ _ _ | exact Kd.S_nil _ _ _ _ _, by repeat (first | (with_reducible first | exact HB.out | apply wa | apply wn | apply wd) | exact HB.out)⟩
    ·rw [if_neg c30] at H
     have c30b0 : decide (65536 < (l0.length : Int)) = false := decide_eq_false c30
     have c30b1 : decide (65536 < l0.length) = false := decide_eq_false (by omega)
     clear c30
     replace H := Option.bind_eq_some_iff.mp H
     obtain ⟨t376, A310, H⟩ := H
     replace H : (parcloseref36_Put.l1 k1 l0 t376 0 0) = some (r1, r2) := H
     have A31 := asd A310
     clear A310
     have H' := asd H
     clear H
     go_wp2_with (first | ((with_reducible refine gate_callee (f := 93) rfl ?_); refine goesL_ (some 65) rfl rfl Try.func93 (by kernel_rfl) rfl #[.int .i64 4, .int .i64 (l0.length : Int)] rfl (by (try simp only [List.map_toArray, List.map_cons, List.map_nil]); first | done | rfl | (simp only [List.length_drop, List.length_take]; rfl)) ?_; (with_reducible refine (parcloseref02_Number.calls k1 4 (l0.length : Int) t376 _ A31.out).mono ?_); rintro e w32 ⟨v377, rfl, ho0, hb⟩; refine ⟨_, rfl, ?_⟩; have n0_ := asd (Kd.R_lower ho0 (below_size (by repeat (first | (with_reducible first | exact HB.out | apply wa | apply wn | apply wd) | exact HB.out)))); have n1_ := asd (below_step (by repeat (first | (with_reducible first | exact HB.out | apply wa | apply wn | apply wd) | exact HB.out)) hb); clear HB; have HO378 := n0_; have HB := n1_; clear n0_ n1_; (try clear hb); (try clear hb2); (try clear hk); (try clear hi); (try clear ho0)))
     go_loopg [6, 7, 8] k1 (fun kq v6 v7 v8 w' => ∃ (x6_2 : List Int) (x7_2 : Int) (x8_2 : Int), v7 = .int .i64 x7_2 ∧ v8 = .int .i64 x8_2 ∧ Aside0 (parcloseref36_Put.l1 kq l0 x6_2 x7_2 x8_2 = some (r1, r2)) ∧ Aside0 (kq ≤ k1) ∧ Aside0 (Kd.R (Kd.int .u8) 5 w' w.heap.size (fun _ => True) v6 x6_2) ∧ Aside0 (Below w.heap.size w w'))
     case atStart => exact ⟨(t376), (0), (0), (by first | rfl | (simp; done) | (simp [*]; done)), (by first | rfl | (simp; done) | (simp [*]; done)), H', ⟨Nat.le_refl _⟩, ⟨by (with_reducible repeat (first | apply Kd.R_alloc | apply Kd.R_drewN | apply Kd.R_drew)); exact HO378.out⟩, ⟨by repeat (first | (with_reducible first | exact HB.out | apply wa | apply wn | apply wd) | exact HB.out)⟩⟩
     case round =>
      clear H'
      try clear c1
      try clear c2
      try clear c2b0
      try clear p2
      try clear c3
      try clear c3b0
      try clear p3
      try clear q3
      try clear hx3
      try clear c4
      try clear c4b0
      try clear c5
      try clear p6
      try clear c7
      try clear c7b0
      try clear c9
      try clear c10
      try clear c10b0
      try clear c13
      try clear c13b0
      try clear c16
      try clear c16b0
      try clear c19
      try clear c19b0
      try clear c22
      try clear c22b0
      try clear c25
      try clear c25b0
      try clear c30
      try clear c30b0
      try clear c30b1
      try clear hcz12_0
      try clear hcz12_1
      try clear hcz12_2
      try clear hcz12_3
      try clear hcz15_0
      try clear hcz15_1
      try clear hcz15_2
      try clear hcz15_3
      try clear hcz18_0
      try clear hcz18_1
      try clear hcz18_2
      try clear hcz18_3
      try clear hcz21_0
      try clear hcz21_1
      try clear hcz21_2
      try clear hcz21_3
      try clear hcz24_0
      try clear hcz24_1
      try clear hcz24_2
      try clear hcz24_3
      try clear hcz27_0
      try clear hcz27_1
      try clear hcz27_2
      try clear hcz27_3
      try clear hcz29_0
      try clear hcz29_1
      try clear hcz29_2
      try clear hcz29_3
      try clear hcz6_0
      try clear hcz6_1
      try clear hcz6_2
      try clear hcz6_3
      try clear hcz9_0
      try clear hcz9_1
      try clear hcz9_2
      try clear hcz9_3
      try clear hfz12_0
      try clear hfz12_1
      try clear hfz12_2
      try clear hfz12_3
      try clear hfz15_0
      try clear hfz15_1
      try clear hfz15_2
      try clear hfz15_3
      try clear hfz18_0
      try clear hfz18_1
      try clear hfz18_2
      try clear hfz18_3
      try clear hfz21_0
      try clear hfz21_1
      try clear hfz21_2
      try clear hfz21_3
      try clear hfz24_0
      try clear hfz24_1
      try clear hfz24_2
      try clear hfz24_3
      try clear hfz27_0
      try clear hfz27_1
      try clear hfz27_2
      try clear hfz27_3
      try clear hfz29_0
      try clear hfz29_1
      try clear hfz29_2
      try clear hfz29_3
      try clear hfz6_0
      try clear hfz6_1
      try clear hfz6_2
      try clear hfz6_3
      try clear hfz9_0
      try clear hfz9_1
      try clear hfz9_2
      try clear hfz9_3
      try clear hx374_0
      try clear hx374_1
      try clear hx374_2
      try clear hx374_3
      try clear p374
      try clear q374
      obtain ⟨x6_2, x7_2, x8_2, rfl, rfl, HA, HK2, HO_6, HB⟩ := hrel
      cases gk with
      | zero => exact absurd HA.out (by simp [parcloseref36_Put.l1])
      | succ k2 =>
       have H := HA.out
       clear HA
       simp only [parcloseref36_Put.l1] at H
       by_cases c33 : x8_2 < (l0.length : Int)
       ·rw [if_pos c33] at H
        have c33b0 : decide (x8_2 < (l0.length : Int)) = true := decide_eq_true c33
        clear c33
        by_cases c34 : 0 ≤ x8_2
        ·rw [if_pos c34] at H
         have c34b0 : decide (0 ≤ x8_2) = true := decide_eq_true c34
         clear c34
         have HC35 := asd H
         clear H
         have p386 : 0 ≤ (x8_2 : Int) := of_decide_eq_true (by assumption)
         have q386 : x8_2 < (l0.length : Int) := of_decide_eq_true (by assumption)
         obtain ⟨ad386, e386, hx386_0, hx386_1, hx386_2, hx386_3⟩ := at_T64 HR0.out x8_2 p386 q386
         cases e386
         replace hx386_0 := (HB.out.cell (World.block_lt_of_cell? w _ hx386_0)).trans hx386_0
         replace hx386_1 := (HB.out.cell (World.block_lt_of_cell? w _ hx386_1)).trans hx386_1
         replace hx386_2 := (HB.out.cell (World.block_lt_of_cell? w _ hx386_2)).trans hx386_2
         replace hx386_3 := (HB.out.cell (World.block_lt_of_cell? w _ hx386_3)).trans hx386_3
         replace p386 := eq_true p386
         replace q386 := eq_true q386
         go_upto_if 81 with (first | ((with_reducible refine gate_dst (N := 9) rfl ?_); refine box_event ?hg (N := 9) ?hd (cs := #[.int .i64 0, .int .i64 0, .int .i64 0, .int .i64 0]) (t := 64) ?hr ?_; (case hd => rfl); (case hg => rfl); (case hr => first | (go_simp; done) | (go_simp; rfl)); intro gb387 hg w36 hbox hb; have n0_ := asd (Kd.R_below (by (with_reducible repeat (first | apply Kd.R_alloc | apply Kd.R_drewN | apply Kd.R_drew)); exact HO_6.out) hb); have n1_ := asd (below_step (by repeat (first | (with_reducible first | exact HB.out | apply wa | apply wn | apply wd) | exact HB.out)) hb); have n2_ := asd (hbox); have n3_ := asd ((by rw [hg]; exact (below_size (by repeat (first | (with_reducible first | exact HB.out | apply wa | apply wn | apply wd) | exact HB.out))) : w.heap.size ≤ gb387)); have n4_ := asd ((by rw [hg]; exact (below_size (by repeat (first | (with_reducible first | exact HB.out | apply wa | apply wn | apply wd) | exact HB.out))) : w.heap.size ≤ gb387)); clear HO_6; clear HB; have HO_6 := n0_; have HB := n1_; have BK387 := n2_; have GW387 := n3_; have GE387 := n4_; clear n0_ n1_ n2_ n3_ n4_; clear hb hbox hg; have hcz37_0 : w36.cell? ⟨gb387, 0, none⟩ = some (.int .i64 0) := (blk_cell BK387.out 0).trans rfl; have hcz37_1 : w36.cell? ⟨gb387, 1, none⟩ = some (.int .i64 0) := (blk_cell BK387.out 1).trans rfl; have hcz37_2 : w36.cell? ⟨gb387, 2, none⟩ = some (.int .i64 0) := (blk_cell BK387.out 2).trans rfl; have hcz37_3 : w36.cell? ⟨gb387, 3, none⟩ = some (.int .i64 0) := (blk_cell BK387.out 3).trans rfl; have hfz37_0 := blk_frozen BK387.out 0; have hfz37_1 := blk_frozen BK387.out 1; have hfz37_2 := blk_frozen BK387.out 2; have hfz37_3 := blk_frozen BK387.out 3))
         (try simp only [Act.put, sB])
         go_cut [10, 11] (fun v10 v11 wc => ∃ (kq : Nat) (x10_34 : Int) (x11_34 : List Int), v10 = .int .i64 x10_34 ∧ Aside0 (parcloseref36_Put.j2 kq l0 x6_2 x8_2 x10_34 x11_34 ((rd_T64 l0 x8_2).f0) ((rd_T64 l0 x8_2).f1) ((rd_T64 l0 x8_2).f2) ((rd_T64 l0 x8_2).f3) = some (r1, r2)) ∧ Aside0 (kq ≤ k2) ∧ Aside0 (Kd.R (Kd.int .u8) 5 wc w.heap.size (fun k_ => some k_ ≠ (v11 : Value).ownBlock) u6 x6_2) ∧ Aside0 (Kd.R (Kd.int .u8) 5 wc w.heap.size (fun k_ => some k_ ≠ (u6 : Value).ownBlock) v11 x11_34) ∧ Aside0 (wc.heap[gb387]? = some (.cells #[.int .i64 ((rd_T64 l0 x8_2).f0), .int .i64 ((rd_T64 l0 x8_2).f1), .int .i64 ((rd_T64 l0 x8_2).f2), .int .i64 ((rd_T64 l0 x8_2).f3)] 64 (0, 0))) ∧ Aside0 (Below w.heap.size w wc))
         case first =>
          have H := HC35.out
          clear HC35
          by_cases c38 : ((rd_T64 l0 x8_2).f0) = x7_2
          ·rw [if_pos c38] at H
           have c38b0 : (((rd_T64 l0 x8_2).f0) == x7_2) = true := beq_iff_eq.mpr c38
           have c38b1 : (((rd_T64 l0 x8_2).f0) != x7_2) = false := bne_eq_false_iff_eq.mpr c38
           clear c38
           (first | rw [c38b0] | (simp only [i64_w, i32_w]; rw [c38b0]) | skip)
           have H' := asd H
           clear H
           go_wp2
           go_meet
           case rel => exact ⟨_, (wrap64 (((rd_T64 l0 x8_2).f1) + 64)), (([] : List Int)), (by first | rfl | (simp; done) | (simp [*]; done)), H', ⟨by have := HK1.out; have := HK2.out; first | omega | exact Nat.le_refl _⟩, ⟨by (with_reducible repeat (first | apply Kd.R_alloc | apply Kd.R_drewN | apply Kd.R_drew)); exact Kd.R_mono (Kd.R_far (p := ⟨gb387, 3, none⟩) (Kd.R_far (p := ⟨gb387, 2, none⟩) (Kd.R_far (p := ⟨gb387, 1, none⟩) (Kd.R_far (p := ⟨gb387, 0, none⟩) (Kd.R_types HO_6.out BK387.out (by decide)) (fun _ hk => hk.2) (.int .i64 ((rd_T64 l0 x8_2).f0))) (fun _ hk => hk.2) (.int .i64 ((rd_T64 l0 x8_2).f1))) (fun _ hk => hk.2) (.int .i64 ((rd_T64 l0 x8_2).f2))) (fun _ hk => hk.2) (.int .i64 ((rd_T64 l0 x8_2).f3))) (fun _ hk => (by simp [Value.ownBlock]))⟩, ⟨by first | exact Kd.R_nil _ _ _ _ _ | exact Kd.N_nil _ _ _ _ _ | exact Kd.V_nil _ _ _ _ _ | exact Kd.Q_nil _ _ _ _ _ | exact Kd.S_nil _ _ _ _ _⟩, ⟨by (with_reducible repeat first | apply bn | apply bd | apply ba); refine blk_put (cs := #[.int .i64 ((rd_T64 l0 x8_2).f0), .int .i64 ((rd_T64 l0 x8_2).f1), .int .i64 ((rd_T64 l0 x8_2).f2), .int .i64 0]) ?_ 3 _ rfl; (with_reducible repeat first | apply bn | apply bd | apply ba); refine blk_put (cs := #[.int .i64 ((rd_T64 l0 x8_2).f0), .int .i64 ((rd_T64 l0 x8_2).f1), .int .i64 0, .int .i64 0]) ?_ 2 _ rfl; (with_reducible repeat first | apply bn | apply bd | apply ba); refine blk_put (cs := #[.int .i64 ((rd_T64 l0 x8_2).f0), .int .i64 0, .int .i64 0, .int .i64 0]) ?_ 1 _ rfl; (with_reducible repeat first | apply bn | apply bd | apply ba); refine blk_put (cs := #[.int .i64 0, .int .i64 0, .int .i64 0, .int .i64 0]) ?_ 0 _ rfl; (with_reducible repeat first | apply bn | apply bd | apply ba); exact BK387.out⟩, ⟨by repeat (first | (with_reducible first | exact HB.out | apply wa | apply wn | apply wd | refine ws ?_ GE387.out) | exact HB.out)⟩⟩
          ·rw [if_neg c38] at H
           have c38b0 : (((rd_T64 l0 x8_2).f0) == x7_2) = false := beq_eq_false_iff_ne.mpr c38
           have c38b1 : (((rd_T64 l0 x8_2).f0) != x7_2) = true := bne_iff_ne.mpr c38
           (first | rw [c38b0] | (simp only [i64_w, i32_w]; rw [c38b0]) | skip)
           by_cases c39 : ((rd_T64 l0 x8_2).f0) = (wrap64 (x7_2 + 1))
           ·rw [if_pos c39] at H
            have c39b0 : (((rd_T64 l0 x8_2).f0) == (wrap64 (x7_2 + 1))) = true := beq_iff_eq.mpr c39
            have c39b1 : (((rd_T64 l0 x8_2).f0) != (wrap64 (x7_2 + 1))) = false := bne_eq_false_iff_eq.mpr c39
            clear c39
            have H' := asd H
            clear H
            have hcz40_0 : w36.cell? ⟨gb387, 0, none⟩ = some (.int .i64 0) := (blk_cell BK387.out 0).trans rfl
            have hcz40_1 : w36.cell? ⟨gb387, 1, none⟩ = some (.int .i64 0) := (blk_cell BK387.out 1).trans rfl
            have hcz40_2 : w36.cell? ⟨gb387, 2, none⟩ = some (.int .i64 0) := (blk_cell BK387.out 2).trans rfl
            have hcz40_3 : w36.cell? ⟨gb387, 3, none⟩ = some (.int .i64 0) := (blk_cell BK387.out 3).trans rfl
            have hfz40_0 := blk_frozen BK387.out 0
            have hfz40_1 := blk_frozen BK387.out 1
            have hfz40_2 := blk_frozen BK387.out 2
            have hfz40_3 := blk_frozen BK387.out 3
            go_wp2
            go_meet
            case rel => exact ⟨_, (wrap64 (((rd_T64 l0 x8_2).f1) + 128)), (([] : List Int)), (by first | rfl | (simp; done) | (simp [*]; done)), H', ⟨by have := HK1.out; have := HK2.out; first | omega | exact Nat.le_refl _⟩, ⟨by (with_reducible repeat (first | apply Kd.R_alloc | apply Kd.R_drewN | apply Kd.R_drew)); exact Kd.R_mono (Kd.R_far (p := ⟨gb387, 3, none⟩) (Kd.R_far (p := ⟨gb387, 2, none⟩) (Kd.R_far (p := ⟨gb387, 1, none⟩) (Kd.R_far (p := ⟨gb387, 0, none⟩) (Kd.R_types HO_6.out BK387.out (by decide)) (fun _ hk => hk.2) (.int .i64 ((rd_T64 l0 x8_2).f0))) (fun _ hk => hk.2) (.int .i64 ((rd_T64 l0 x8_2).f1))) (fun _ hk => hk.2) (.int .i64 ((rd_T64 l0 x8_2).f2))) (fun _ hk => hk.2) (.int .i64 ((rd_T64 l0 x8_2).f3))) (fun _ hk => (by simp [Value.ownBlock]))⟩, ⟨by first | exact Kd.R_nil _ _ _ _ _ | exact Kd.N_nil _ _ _ _ _ | exact Kd.V_nil _ _ _ _ _ | exact Kd.Q_nil _ _ _ _ _ | exact Kd.S_nil _ _ _ _ _⟩, ⟨by (with_reducible repeat first | apply bn | apply bd | apply ba); refine blk_put (cs := #[.int .i64 ((rd_T64 l0 x8_2).f0), .int .i64 ((rd_T64 l0 x8_2).f1), .int .i64 ((rd_T64 l0 x8_2).f2), .int .i64 0]) ?_ 3 _ rfl; (with_reducible repeat first | apply bn | apply bd | apply ba); refine blk_put (cs := #[.int .i64 ((rd_T64 l0 x8_2).f0), .int .i64 ((rd_T64 l0 x8_2).f1), .int .i64 0, .int .i64 0]) ?_ 2 _ rfl; (with_reducible repeat first | apply bn | apply bd | apply ba); refine blk_put (cs := #[.int .i64 ((rd_T64 l0 x8_2).f0), .int .i64 0, .int .i64 0, .int .i64 0]) ?_ 1 _ rfl; (with_reducible repeat first | apply bn | apply bd | apply ba); refine blk_put (cs := #[.int .i64 0, .int .i64 0, .int .i64 0, .int .i64 0]) ?_ 0 _ rfl; (with_reducible repeat first | apply bn | apply bd | apply ba); exact BK387.out⟩, ⟨by repeat (first | (with_reducible first | exact HB.out | apply wa | apply wn | apply wd | refine ws ?_ GE387.out) | exact HB.out)⟩⟩
           ·rw [if_neg c39] at H
            have c39b0 : (((rd_T64 l0 x8_2).f0) == (wrap64 (x7_2 + 1))) = false := beq_eq_false_iff_ne.mpr c39
            have c39b1 : (((rd_T64 l0 x8_2).f0) != (wrap64 (x7_2 + 1))) = true := bne_iff_ne.mpr c39
            replace H := Option.bind_eq_some_iff.mp H
            obtain ⟨t388, A410, H⟩ := H
            replace H : (if ([] : List Int).length + t388.length < 140737488355328 then (parcloseref36_Put.j2 k2 l0 x6_2 x8_2 ((rd_T64 l0 x8_2).f1) (([] : List Int) ++ t388) ((rd_T64 l0 x8_2).f0) ((rd_T64 l0 x8_2).f1) ((rd_T64 l0 x8_2).f2) ((rd_T64 l0 x8_2).f3)) else (none)) = some (r1, r2) := H
            have A41 := asd A410
            clear A410
            by_cases c42 : ([] : List Int).length + t388.length < 140737488355328
            ·rw [if_pos c42] at H
             have LMc42 := asd c42
             clear c42
             obtain ⟨y391, hy391⟩ : ∃ y_ : List Int, y_ = (([] : List Int) ++ t388) := ⟨_, rfl⟩
             replace H : (parcloseref36_Put.j2 k2 l0 x6_2 x8_2 ((rd_T64 l0 x8_2).f1) y391 ((rd_T64 l0 x8_2).f0) ((rd_T64 l0 x8_2).f1) ((rd_T64 l0 x8_2).f2) ((rd_T64 l0 x8_2).f3)) = some (r1, r2) := by first | (rw [hy391]; with_reducible exact H) | (have H2_ := (Option.bind_some _ _).symm.trans H; rw [hy391]; with_reducible exact H2_) | (have H2_ := (Option.bind_some _ _).symm.trans H; with_reducible exact H2_) | with_reducible exact H | (rw [hy391]; exact H) | exact H
             have Ny391 := asd hy391
             clear hy391
             have H' := asd H
             clear H
             have hcz43_0 : w36.cell? ⟨gb387, 0, none⟩ = some (.int .i64 0) := (blk_cell BK387.out 0).trans rfl
             have hcz43_1 : w36.cell? ⟨gb387, 1, none⟩ = some (.int .i64 0) := (blk_cell BK387.out 1).trans rfl
             have hcz43_2 : w36.cell? ⟨gb387, 2, none⟩ = some (.int .i64 0) := (blk_cell BK387.out 2).trans rfl
             have hcz43_3 : w36.cell? ⟨gb387, 3, none⟩ = some (.int .i64 0) := (blk_cell BK387.out 3).trans rfl
             have hfz43_0 := blk_frozen BK387.out 0
             have hfz43_1 := blk_frozen BK387.out 1
             have hfz43_2 := blk_frozen BK387.out 2
             have hfz43_3 := blk_frozen BK387.out 3
             go_wp2_with (first | ((with_reducible refine gate_callee (f := 93) rfl ?_); refine goesL_ (some 94) rfl rfl Try.func93 (by kernel_rfl) rfl #[.int .i64 7, .int .i64 ((rd_T64 l0 x8_2).f0)] rfl (by (try simp only [List.map_toArray, List.map_cons, List.map_nil]); first | done | rfl | (simp only [List.length_drop, List.length_take]; rfl)) ?_; (with_reducible refine (parcloseref02_Number.calls k2 7 ((rd_T64 l0 x8_2).f0) t388 _ A41.out).mono ?_); rintro e w44 ⟨v389, rfl, ho0, hb⟩; refine ⟨_, rfl, ?_⟩; have n0_ := asd (Kd.R_elder' (by (with_reducible repeat (first | apply Kd.R_alloc | apply Kd.R_drewN | apply Kd.R_drew)); exact (Kd.R_mono (Kd.R_far (p := ⟨gb387, 3, none⟩) (Kd.R_far (p := ⟨gb387, 2, none⟩) (Kd.R_far (p := ⟨gb387, 1, none⟩) (Kd.R_far (p := ⟨gb387, 0, none⟩) (Kd.R_types HO_6.out BK387.out (by decide)) (fun _ hk => hk.2) (.int .i64 ((rd_T64 l0 x8_2).f0))) (fun _ hk => hk.2) (.int .i64 ((rd_T64 l0 x8_2).f1))) (fun _ hk => hk.2) (.int .i64 ((rd_T64 l0 x8_2).f2))) (fun _ hk => hk.2) (.int .i64 ((rd_T64 l0 x8_2).f3))) (fun _ h_ => h_.1))) (Kd.R_base ho0) hb); have n1_ := asd (Kd.R_lower (Kd.R_new' ho0 (Kd.R_lt (by (with_reducible repeat (first | apply Kd.R_alloc | apply Kd.R_drewN | apply Kd.R_drew)); exact (Kd.R_mono (Kd.R_far (p := ⟨gb387, 3, none⟩) (Kd.R_far (p := ⟨gb387, 2, none⟩) (Kd.R_far (p := ⟨gb387, 1, none⟩) (Kd.R_far (p := ⟨gb387, 0, none⟩) (Kd.R_types HO_6.out BK387.out (by decide)) (fun _ hk => hk.2) (.int .i64 ((rd_T64 l0 x8_2).f0))) (fun _ hk => hk.2) (.int .i64 ((rd_T64 l0 x8_2).f1))) (fun _ hk => hk.2) (.int .i64 ((rd_T64 l0 x8_2).f2))) (fun _ hk => hk.2) (.int .i64 ((rd_T64 l0 x8_2).f3))) (fun _ h_ => h_.1))))) (below_size (by repeat (first | (with_reducible first | exact HB.out | apply wa | apply wn | apply wd | refine ws ?_ GE387.out) | exact HB.out)))); have n2_ := asd (blk_below (g := gb387) (o := .cells #[.int .i64 ((rd_T64 l0 x8_2).f0), .int .i64 ((rd_T64 l0 x8_2).f1), .int .i64 ((rd_T64 l0 x8_2).f2), .int .i64 ((rd_T64 l0 x8_2).f3)] 64 (0, 0)) (by (with_reducible repeat first | apply bn | apply bd | apply ba); refine blk_put (cs := #[.int .i64 ((rd_T64 l0 x8_2).f0), .int .i64 ((rd_T64 l0 x8_2).f1), .int .i64 ((rd_T64 l0 x8_2).f2), .int .i64 0]) ?_ 3 _ rfl; (with_reducible repeat first | apply bn | apply bd | apply ba); refine blk_put (cs := #[.int .i64 ((rd_T64 l0 x8_2).f0), .int .i64 ((rd_T64 l0 x8_2).f1), .int .i64 0, .int .i64 0]) ?_ 2 _ rfl; (with_reducible repeat first | apply bn | apply bd | apply ba); refine blk_put (cs := #[.int .i64 ((rd_T64 l0 x8_2).f0), .int .i64 0, .int .i64 0, .int .i64 0]) ?_ 1 _ rfl; (with_reducible repeat first | apply bn | apply bd | apply ba); refine blk_put (cs := #[.int .i64 0, .int .i64 0, .int .i64 0, .int .i64 0]) ?_ 0 _ rfl; (with_reducible repeat first | apply bn | apply bd | apply ba); exact BK387.out) hb); have n3_ := asd (below_step (by repeat (first | (with_reducible first | exact HB.out | apply wa | apply wn | apply wd | refine ws ?_ GE387.out) | exact HB.out)) hb); clear HO_6; clear BK387; clear HB; have HO_6 := n0_; have HO390 := n1_; have BK387 := n2_; have HB := n3_; clear n0_ n1_ n2_ n3_; (try clear hb); (try clear hb2); (try clear hk); (try clear hi); (try clear ho0); obtain ⟨Ao46, co46, eo46⟩ := Kd.R_slice HO390.out; subst eo46) | ((with_reducible refine gate_builtin (b := .append) (xs := #[.tmp 91, .tmp 94]) rfl ?_); at_builtin; refine Kd.R_append_rows (Kd.int .u8) (w0 := w) w.heap.size rfl (.tmp 91) (.tmp 94) 78 5 (.int .u8 0) 1 rfl Try.underlying78 info5 rfl (by decide) (by omega) (.slice none 0 0) ([] : List Int) t388 _ _ _ (fun k_ => some k_ ≠ (u6 : Value).ownBlock ∧ some k_ ≠ (.slice Ao46 t388.length co46 : Value).ownBlock) (fun _ => False) rfl rfl ?aO ?aR (fun _ _ h => h) (fun _ h => h.elim) ?aF ?aB ?aS ?aL ?_; (case aR => repeat (first | exact (Kd.R_reads' HO390.out).2.2 | (with_reducible refine Kd.C_alloc ?_ _) | (with_reducible refine Kd.C_drewN ?_ _) | (with_reducible refine Kd.C_drew ?_))); (case aB => exact (by repeat (first | (with_reducible first | exact HB.out | apply wa | apply wn | apply wd | refine ws ?_ GE387.out) | exact HB.out))); (case aF => exact (fun k_ hk => ⟨Kd.fresh' (Kd.R_lt (by (with_reducible repeat (first | apply Kd.R_alloc | apply Kd.R_drewN | apply Kd.R_drew)); exact HO_6.out)) k_ hk, Kd.fresh' (Kd.R_lt (by (with_reducible repeat (first | apply Kd.R_alloc | apply Kd.R_drewN | apply Kd.R_drew)); exact HO390.out)) k_ hk⟩)); (case aO => exact ((Kd.R_nil _ _ _ _ (fun k_ => some k_ ≠ (u6 : Value).ownBlock ∧ some k_ ≠ (.slice Ao46 t388.length co46 : Value).ownBlock)))); (case aS => exact (below_size (by repeat (first | (with_reducible first | exact HB.out | apply wa | apply wn | apply wd | refine ws ?_ GE387.out) | exact HB.out)))); (case aL => have := LMc42.out; omega); intro v392 w45 ho hb hg hat; rw [← Ny391.out] at ho; have n0_ := asd (Kd.R_after (Kd.R_apart_nil (by (with_reducible repeat (first | apply Kd.R_alloc | apply Kd.R_drewN | apply Kd.R_drew)); exact HO_6.out)) hg hat); have n1_ := asd (blk_grown (g := gb387) (o := .cells #[.int .i64 ((rd_T64 l0 x8_2).f0), .int .i64 ((rd_T64 l0 x8_2).f1), .int .i64 ((rd_T64 l0 x8_2).f2), .int .i64 ((rd_T64 l0 x8_2).f3)] 64 (0, 0)) (by (with_reducible repeat first | apply bn | apply bd | apply ba); exact BK387.out) hg (by simp [Value.ownBlock])); have n2_ := asd (Kd.R_after (Kd.R_apart_nil (by (with_reducible repeat (first | apply Kd.R_alloc | apply Kd.R_drewN | apply Kd.R_drew)); exact HO390.out)) hg hat); have n3_ := asd (hb); have n4_ := asd (ho); clear HO_6; clear BK387; clear HO390; clear HB; have HO_6 := n0_; have BK387 := n1_; have HO390 := n2_; have HB := n3_; have HO393 := n4_; clear n0_ n1_ n2_ n3_ n4_; clear ho hb hg hat))
             go_meet
             case rel => exact ⟨_, ((rd_T64 l0 x8_2).f1), (y391), (by first | rfl | (simp; done) | (simp [*]; done)), H', ⟨by have := HK1.out; have := HK2.out; first | omega | exact Nat.le_refl _⟩, ⟨by (with_reducible repeat (first | apply Kd.R_alloc | apply Kd.R_drewN | apply Kd.R_drew)); exact Kd.R_mono HO_6.out (fun _ hk => hk.2)⟩, ⟨by (with_reducible repeat (first | apply Kd.R_alloc | apply Kd.R_drewN | apply Kd.R_drew)); exact Kd.R_mono HO393.out (fun _ hk => hk.1)⟩, ⟨by (with_reducible repeat first | apply bn | apply bd | apply ba); exact BK387.out⟩, ⟨by repeat (first | (with_reducible first | exact HB.out | apply wa | apply wn | apply wd | refine ws ?_ GE387.out) | exact HB.out)⟩⟩
            ·rw [if_neg c42] at H
             exact absurd H (by simp)
         case rest =>
          clear HC35
          try clear c1
          try clear c2
          try clear c2b0
          try clear p2
          try clear c3
          try clear c3b0
          try clear p3
          try clear q3
          try clear hx3
          try clear c4
          try clear c4b0
          try clear c5
          try clear p6
          try clear c7
          try clear c7b0
          try clear c9
          try clear c10
          try clear c10b0
          try clear c13
          try clear c13b0
          try clear c16
          try clear c16b0
          try clear c19
          try clear c19b0
          try clear c22
          try clear c22b0
          try clear c25
          try clear c25b0
          try clear c30
          try clear c30b0
          try clear c30b1
          try clear c33
          try clear c33b0
          try clear c34
          try clear c34b0
          try clear p37
          try clear q37
          try clear hx37
          try clear c38
          try clear c38b0
          try clear c38b1
          try clear p38
          try clear q38
          try clear hx38
          try clear c39
          try clear c39b0
          try clear c39b1
          try clear c42
          try clear hcz12_0
          try clear hcz12_1
          try clear hcz12_2
          try clear hcz12_3
          try clear hcz15_0
          try clear hcz15_1
          try clear hcz15_2
          try clear hcz15_3
          try clear hcz18_0
          try clear hcz18_1
          try clear hcz18_2
          try clear hcz18_3
          try clear hcz21_0
          try clear hcz21_1
          try clear hcz21_2
          try clear hcz21_3
          try clear hcz24_0
          try clear hcz24_1
          try clear hcz24_2
          try clear hcz24_3
          try clear hcz27_0
          try clear hcz27_1
          try clear hcz27_2
          try clear hcz27_3
          try clear hcz29_0
          try clear hcz29_1
          try clear hcz29_2
          try clear hcz29_3
          try clear hcz37_0
          try clear hcz37_1
          try clear hcz37_2
          try clear hcz37_3
          try clear hcz40_0
          try clear hcz40_1
          try clear hcz40_2
          try clear hcz40_3
          try clear hcz43_0
          try clear hcz43_1
          try clear hcz43_2
          try clear hcz43_3
          try clear hcz6_0
          try clear hcz6_1
          try clear hcz6_2
          try clear hcz6_3
          try clear hcz9_0
          try clear hcz9_1
          try clear hcz9_2
          try clear hcz9_3
          try clear hfz12_0
          try clear hfz12_1
          try clear hfz12_2
          try clear hfz12_3
          try clear hfz15_0
          try clear hfz15_1
          try clear hfz15_2
          try clear hfz15_3
          try clear hfz18_0
          try clear hfz18_1
          try clear hfz18_2
          try clear hfz18_3
          try clear hfz21_0
          try clear hfz21_1
          try clear hfz21_2
          try clear hfz21_3
          try clear hfz24_0
          try clear hfz24_1
          try clear hfz24_2
          try clear hfz24_3
          try clear hfz27_0
          try clear hfz27_1
          try clear hfz27_2
          try clear hfz27_3
          try clear hfz29_0
          try clear hfz29_1
          try clear hfz29_2
          try clear hfz29_3
          try clear hfz37_0
          try clear hfz37_1
          try clear hfz37_2
          try clear hfz37_3
          try clear hfz40_0
          try clear hfz40_1
          try clear hfz40_2
          try clear hfz40_3
          try clear hfz43_0
          try clear hfz43_1
          try clear hfz43_2
          try clear hfz43_3
          try clear hfz6_0
          try clear hfz6_1
          try clear hfz6_2
          try clear hfz6_3
          try clear hfz9_0
          try clear hfz9_1
          try clear hfz9_2
          try clear hfz9_3
          try clear hx374_0
          try clear hx374_1
          try clear hx374_2
          try clear hx374_3
          try clear hx386_0
          try clear hx386_1
          try clear hx386_2
          try clear hx386_3
          try clear p2
          try clear p3
          try clear p374
          try clear p386
          try clear p6
          try clear q3
          try clear q374
          try clear q386
          obtain ⟨kq, x10_34, x11_34, rfl, HA, HJ34, HO_6, HO_11, BK387, HB⟩ := hcut
          cases kq with
          | zero => exact absurd HA.out (by simp [parcloseref36_Put.j2])
          | succ kj34 =>
           have H := HA.out
           clear HA
           simp only [parcloseref36_Put.j2] at H
           by_cases c47 : ((rd_T64 l0 x8_2).f2) = 0
           ·rw [if_pos c47] at H
            have c47b0 : (((rd_T64 l0 x8_2).f2) == 0) = true := beq_iff_eq.mpr c47
            have c47b1 : (((rd_T64 l0 x8_2).f2) != 0) = false := bne_eq_false_iff_eq.mpr c47
            clear c47
            by_cases c48 : ((rd_T64 l0 x8_2).f3) = 0
            ·rw [if_pos c48] at H
             have c48b0 : (((rd_T64 l0 x8_2).f3) == 0) = true := beq_iff_eq.mpr c48
             have c48b1 : (((rd_T64 l0 x8_2).f3) != 0) = false := bne_eq_false_iff_eq.mpr c48
             clear c48
             by_cases c49 : x6_2.length < 140737488355328
             ·rw [if_pos c49] at H
              have LMc49 := asd c49
              clear c49
              obtain ⟨y394, hy394⟩ : ∃ y_ : List Int, y_ = (x6_2 ++ [(wrap64 ((wrap64 (x10_34 + 16)) + 32)) % 256]) := ⟨_, rfl⟩
              replace H : (if y394.length + x11_34.length < 140737488355328 then (parcloseref36_Put.l1 kj34 l0 (y394 ++ x11_34) ((rd_T64 l0 x8_2).f0) (wrap64 (x8_2 + 1))) else (none)) = some (r1, r2) := by first | (rw [hy394]; with_reducible exact H) | (have H2_ := (Option.bind_some _ _).symm.trans H; rw [hy394]; with_reducible exact H2_) | (have H2_ := (Option.bind_some _ _).symm.trans H; with_reducible exact H2_) | with_reducible exact H | (rw [hy394]; exact H) | exact H
              have Ny394 := asd hy394
              clear hy394
              by_cases c50 : y394.length + x11_34.length < 140737488355328
              ·rw [if_pos c50] at H
               have LMc50 := asd c50
               clear c50
               obtain ⟨y397, hy397⟩ : ∃ y_ : List Int, y_ = (y394 ++ x11_34) := ⟨_, rfl⟩
               replace H : (parcloseref36_Put.l1 kj34 l0 y397 ((rd_T64 l0 x8_2).f0) (wrap64 (x8_2 + 1))) = some (r1, r2) := by first | (rw [hy397]; with_reducible exact H) | (have H2_ := (Option.bind_some _ _).symm.trans H; rw [hy397]; with_reducible exact H2_) | (have H2_ := (Option.bind_some _ _).symm.trans H; with_reducible exact H2_) | with_reducible exact H | (rw [hy397]; exact H) | exact H
               have Ny397 := asd hy397
               clear hy397
               have H' := asd H
               clear H
               have hcz51_0 : wc.cell? ⟨gb387, 0, none⟩ = some (.int .i64 ((rd_T64 l0 x8_2).f0)) := (blk_cell BK387.out 0).trans rfl
               have hcz51_1 : wc.cell? ⟨gb387, 1, none⟩ = some (.int .i64 ((rd_T64 l0 x8_2).f1)) := (blk_cell BK387.out 1).trans rfl
               have hcz51_2 : wc.cell? ⟨gb387, 2, none⟩ = some (.int .i64 ((rd_T64 l0 x8_2).f2)) := (blk_cell BK387.out 2).trans rfl
               have hcz51_3 : wc.cell? ⟨gb387, 3, none⟩ = some (.int .i64 ((rd_T64 l0 x8_2).f3)) := (blk_cell BK387.out 3).trans rfl
               have hfz51_0 := blk_frozen BK387.out 0
               have hfz51_1 := blk_frozen BK387.out 1
               have hfz51_2 := blk_frozen BK387.out 2
               have hfz51_3 := blk_frozen BK387.out 3
               go_wp2_with (first | ((with_reducible refine gate_builtin (b := .append) (xs := #[.tmp 116, .tmp 119]) rfl ?_); at_builtin; refine Kd.R_append (Kd.int .u8) (w0 := w) w.heap.size rfl (.tmp 116) (.tmp 119) 78 5 (.int .u8 0) 1 rfl Try.underlying78 info5 rfl (by decide) (by omega) u6 x6_2 ((wrap64 ((wrap64 (x10_34 + 16)) + 32)) % 256) [.int .u8 ((wrap64 ((wrap64 (x10_34 + 16)) + 32)) % 256)] (fun k_ => some k_ ≠ (u11 : Value).ownBlock) (fun _ => False) rfl rfl ?aP (fun _ hk => hk.elim) ?aF ?aO ?aB ?aS ?aL ?_; (case aP => exact rfl); (case aB => exact (by repeat (first | (with_reducible first | exact HB.out | apply wa | apply wn | apply wd | refine ws ?_ GE387.out) | exact HB.out))); (case aF => exact (fun k_ hk => Kd.fresh' (Kd.R_lt (by (with_reducible repeat (first | apply Kd.R_alloc | apply Kd.R_drewN | apply Kd.R_drew)); exact HO_11.out)) k_ hk)); (case aO => exact (by (with_reducible repeat (first | apply Kd.R_alloc | apply Kd.R_drewN | apply Kd.R_drew)); exact HO_6.out)); (case aS => exact (below_size (by repeat (first | (with_reducible first | exact HB.out | apply wa | apply wn | apply wd | refine ws ?_ GE387.out) | exact HB.out)))); (case aL => have := LMc49.out; omega); intro v395 w52 ho hb hg hat; rw [← Ny394.out] at ho; have n0_ := asd (Kd.R_after (ok := (fun _ => True)) (by (with_reducible repeat (first | apply Kd.R_alloc | apply Kd.R_drewN | apply Kd.R_drew)); exact Kd.R_mono HO_11.out (fun _ hk => ⟨trivial, hk⟩)) hg hat); have n1_ := asd (blk_grown (g := gb387) (o := .cells #[.int .i64 ((rd_T64 l0 x8_2).f0), .int .i64 ((rd_T64 l0 x8_2).f1), .int .i64 ((rd_T64 l0 x8_2).f2), .int .i64 ((rd_T64 l0 x8_2).f3)] 64 (0, 0)) (by (with_reducible repeat first | apply bn | apply bd | apply ba); exact BK387.out) hg (Kd.R_ne HO_6.out BK387.out (by decide))); have n2_ := asd (hb); have n3_ := asd (ho); clear HO_11; clear BK387; clear HB; clear HO_6; have HO_11 := n0_; have BK387 := n1_; have HB := n2_; have HO396 := n3_; clear n0_ n1_ n2_ n3_; clear ho hb hg hat; obtain ⟨Ao54, co54, eo54⟩ := Kd.R_slice HO_11.out; subst eo54) | ((with_reducible refine gate_builtin (b := .append) (xs := #[.tmp 120, .tmp 121]) rfl ?_); at_builtin; refine Kd.R_append_rows (Kd.int .u8) (w0 := w) w.heap.size rfl (.tmp 120) (.tmp 121) 78 5 (.int .u8 0) 1 rfl Try.underlying78 info5 rfl (by decide) (by omega) v395 y394 x11_34 _ _ _ (fun k_ => some k_ ≠ (.slice Ao54 x11_34.length co54 : Value).ownBlock) (fun _ => False) rfl rfl ?aO ?aR (fun _ _ h => h) (fun _ h => h.elim) ?aF ?aB ?aS ?aL ?_; (case aR => repeat (first | exact (Kd.R_reads' HO_11.out).2.2 | (with_reducible refine Kd.C_alloc ?_ _) | (with_reducible refine Kd.C_drewN ?_ _) | (with_reducible refine Kd.C_drew ?_))); (case aB => exact (by repeat (first | (with_reducible first | exact HB.out | apply wa | apply wn | apply wd | refine ws ?_ GE387.out) | exact HB.out))); (case aF => exact (fun k_ hk => Kd.fresh' (Kd.R_lt (by (with_reducible repeat (first | apply Kd.R_alloc | apply Kd.R_drewN | apply Kd.R_drew)); exact HO_11.out)) k_ hk)); (case aO => exact (by (with_reducible repeat (first | apply Kd.R_alloc | apply Kd.R_drewN | apply Kd.R_drew)); exact HO396.out)); (case aS => exact (below_size (by repeat (first | (with_reducible first | exact HB.out | apply wa | apply wn | apply wd | refine ws ?_ GE387.out) | exact HB.out)))); (case aL => have := LMc50.out; omega); intro v398 w53 ho hb hg hat; rw [← Ny397.out] at ho; have n0_ := asd (Kd.R_after (ok := (fun _ => True)) (by (with_reducible repeat (first | apply Kd.R_alloc | apply Kd.R_drewN | apply Kd.R_drew)); exact HO_11.out) hg hat); have n1_ := asd (blk_grown (g := gb387) (o := .cells #[.int .i64 ((rd_T64 l0 x8_2).f0), .int .i64 ((rd_T64 l0 x8_2).f1), .int .i64 ((rd_T64 l0 x8_2).f2), .int .i64 ((rd_T64 l0 x8_2).f3)] 64 (0, 0)) (by (with_reducible repeat first | apply bn | apply bd | apply ba); exact BK387.out) hg (Kd.R_ne HO396.out BK387.out (by decide))); have n2_ := asd (hb); have n3_ := asd (ho); clear HO_11; clear BK387; clear HB; clear HO396; have HO_11 := n0_; have BK387 := n1_; have HB := n2_; have HO399 := n3_; clear n0_ n1_ n2_ n3_; clear ho hb hg hat; have hcz55_0 : w53.cell? ⟨gb387, 0, none⟩ = some (.int .i64 ((rd_T64 l0 x8_2).f0)) := (blk_cell BK387.out 0).trans rfl; have hcz55_1 : w53.cell? ⟨gb387, 1, none⟩ = some (.int .i64 ((rd_T64 l0 x8_2).f1)) := (blk_cell BK387.out 1).trans rfl; have hcz55_2 : w53.cell? ⟨gb387, 2, none⟩ = some (.int .i64 ((rd_T64 l0 x8_2).f2)) := (blk_cell BK387.out 2).trans rfl; have hcz55_3 : w53.cell? ⟨gb387, 3, none⟩ = some (.int .i64 ((rd_T64 l0 x8_2).f3)) := (blk_cell BK387.out 3).trans rfl; have hfz55_0 := blk_frozen BK387.out 0; have hfz55_1 := blk_frozen BK387.out 1; have hfz55_2 := blk_frozen BK387.out 2; have hfz55_3 := blk_frozen BK387.out 3))
               go_roundg kj34
               case measure => have := HK1.out; have := HK2.out; have := HJ34.out; omega
               case rel => exact ⟨(y397), (((rd_T64 l0 x8_2).f0)), (wrap64 (x8_2 + 1)), (by first | rfl | (simp; done) | (simp [*]; done)), (by first | rfl | (simp; done) | (simp [*]; done)), H', ⟨by have := HK1.out; have := HK2.out; have := HJ34.out; omega⟩, ⟨by (with_reducible repeat (first | apply Kd.R_alloc | apply Kd.R_drewN | apply Kd.R_drew)); exact Kd.R_mono HO399.out (fun _ hk => trivial)⟩, ⟨by repeat (first | (with_reducible first | exact HB.out | apply wa | apply wn | apply wd | refine ws ?_ GE387.out) | exact HB.out)⟩⟩
              ·rw [if_neg c50] at H
               exact absurd H (by simp)
             ·rw [if_neg c49] at H
              exact absurd H (by simp)
            ·rw [if_neg c48] at H
             have c48b0 : (((rd_T64 l0 x8_2).f3) == 0) = false := beq_eq_false_iff_ne.mpr c48
             have c48b1 : (((rd_T64 l0 x8_2).f3) != 0) = true := bne_iff_ne.mpr c48
             replace H := Option.bind_eq_some_iff.mp H
             obtain ⟨t400, A560, H⟩ := H
             replace H : (if x11_34.length + t400.length < 140737488355328 then ((some (x11_34 ++ t400 : List Int)).bind fun y403 => (if x6_2.length < 140737488355328 then ((some (x6_2 ++ [(wrap64 (x10_34 + 16)) % 256] : List Int)).bind fun y406 => (if y406.length + y403.length < 140737488355328 then (parcloseref36_Put.l1 kj34 l0 (y406 ++ y403) ((rd_T64 l0 x8_2).f0) (wrap64 (x8_2 + 1))) else (none))) else (none))) else (none)) = some (r1, r2) := H
             have A56 := asd A560
             clear A560
             by_cases c57 : x11_34.length + t400.length < 140737488355328
             ·rw [if_pos c57] at H
              have LMc57 := asd c57
              clear c57
              obtain ⟨y403, hy403⟩ : ∃ y_ : List Int, y_ = (x11_34 ++ t400) := ⟨_, rfl⟩
              replace H : (if x6_2.length < 140737488355328 then ((some (x6_2 ++ [(wrap64 (x10_34 + 16)) % 256] : List Int)).bind fun y406 => (if y406.length + y403.length < 140737488355328 then (parcloseref36_Put.l1 kj34 l0 (y406 ++ y403) ((rd_T64 l0 x8_2).f0) (wrap64 (x8_2 + 1))) else (none))) else (none)) = some (r1, r2) := by first | (rw [hy403]; with_reducible exact H) | (have H2_ := (Option.bind_some _ _).symm.trans H; rw [hy403]; with_reducible exact H2_) | (have H2_ := (Option.bind_some _ _).symm.trans H; with_reducible exact H2_) | with_reducible exact H | (rw [hy403]; exact H) | exact H
              have Ny403 := asd hy403
              clear hy403
              by_cases c58 : x6_2.length < 140737488355328
              ·rw [if_pos c58] at H
               have LMc58 := asd c58
               clear c58
               obtain ⟨y406, hy406⟩ : ∃ y_ : List Int, y_ = (x6_2 ++ [(wrap64 (x10_34 + 16)) % 256]) := ⟨_, rfl⟩
               replace H : (if y406.length + y403.length < 140737488355328 then (parcloseref36_Put.l1 kj34 l0 (y406 ++ y403) ((rd_T64 l0 x8_2).f0) (wrap64 (x8_2 + 1))) else (none)) = some (r1, r2) := by first | (rw [hy406]; with_reducible exact H) | (have H2_ := (Option.bind_some _ _).symm.trans H; rw [hy406]; with_reducible exact H2_) | (have H2_ := (Option.bind_some _ _).symm.trans H; with_reducible exact H2_) | with_reducible exact H | (rw [hy406]; exact H) | exact H
               have Ny406 := asd hy406
               clear hy406
               by_cases c59 : y406.length + y403.length < 140737488355328
               ·rw [if_pos c59] at H
                have LMc59 := asd c59
                clear c59
                obtain ⟨y409, hy409⟩ : ∃ y_ : List Int, y_ = (y406 ++ y403) := ⟨_, rfl⟩
                replace H : (parcloseref36_Put.l1 kj34 l0 y409 ((rd_T64 l0 x8_2).f0) (wrap64 (x8_2 + 1))) = some (r1, r2) := by first | (rw [hy409]; with_reducible exact H) | (have H2_ := (Option.bind_some _ _).symm.trans H; rw [hy409]; with_reducible exact H2_) | (have H2_ := (Option.bind_some _ _).symm.trans H; with_reducible exact H2_) | with_reducible exact H | (rw [hy409]; exact H) | exact H
                have Ny409 := asd hy409
                clear hy409
                have H' := asd H
                clear H
                have hcz60_0 : wc.cell? ⟨gb387, 0, none⟩ = some (.int .i64 ((rd_T64 l0 x8_2).f0)) := (blk_cell BK387.out 0).trans rfl
                have hcz60_1 : wc.cell? ⟨gb387, 1, none⟩ = some (.int .i64 ((rd_T64 l0 x8_2).f1)) := (blk_cell BK387.out 1).trans rfl
                have hcz60_2 : wc.cell? ⟨gb387, 2, none⟩ = some (.int .i64 ((rd_T64 l0 x8_2).f2)) := (blk_cell BK387.out 2).trans rfl
                have hcz60_3 : wc.cell? ⟨gb387, 3, none⟩ = some (.int .i64 ((rd_T64 l0 x8_2).f3)) := (blk_cell BK387.out 3).trans rfl
                have hfz60_0 := blk_frozen BK387.out 0
                have hfz60_1 := blk_frozen BK387.out 1
                have hfz60_2 := blk_frozen BK387.out 2
                have hfz60_3 := blk_frozen BK387.out 3
                go_wp2_with (first | ((with_reducible refine gate_callee (f := 93) rfl ?_); refine goesL_ (some 114) rfl rfl Try.func93 (by kernel_rfl) rfl #[.int .i64 7, .int .i64 ((rd_T64 l0 x8_2).f3)] rfl (by (try simp only [List.map_toArray, List.map_cons, List.map_nil]); first | done | rfl | (simp only [List.length_drop, List.length_take]; rfl)) ?_; (with_reducible refine (parcloseref02_Number.calls kj34 7 ((rd_T64 l0 x8_2).f3) t400 _ A56.out).mono ?_); rintro e w61 ⟨v401, rfl, ho0, hb⟩; refine ⟨_, rfl, ?_⟩; have n0_ := asd (Kd.R_elder' (by (with_reducible repeat (first | apply Kd.R_alloc | apply Kd.R_drewN | apply Kd.R_drew)); exact HO_6.out) (Kd.R_base ho0) hb); have n1_ := asd (Kd.R_elder' (by (with_reducible repeat (first | apply Kd.R_alloc | apply Kd.R_drewN | apply Kd.R_drew)); exact HO_11.out) (Kd.R_base ho0) hb); have n2_ := asd (Kd.R_lower (Kd.R_new' (Kd.R_new' ho0 (Kd.R_lt (by (with_reducible repeat (first | apply Kd.R_alloc | apply Kd.R_drewN | apply Kd.R_drew)); exact HO_6.out))) (Kd.R_lt (by (with_reducible repeat (first | apply Kd.R_alloc | apply Kd.R_drewN | apply Kd.R_drew)); exact HO_11.out))) (below_size (by repeat (first | (with_reducible first | exact HB.out | apply wa | apply wn | apply wd | refine ws ?_ GE387.out) | exact HB.out)))); have n3_ := asd (blk_below (g := gb387) (o := .cells #[.int .i64 ((rd_T64 l0 x8_2).f0), .int .i64 ((rd_T64 l0 x8_2).f1), .int .i64 ((rd_T64 l0 x8_2).f2), .int .i64 ((rd_T64 l0 x8_2).f3)] 64 (0, 0)) (by (with_reducible repeat first | apply bn | apply bd | apply ba); exact BK387.out) hb); have n4_ := asd (below_step (by repeat (first | (with_reducible first | exact HB.out | apply wa | apply wn | apply wd | refine ws ?_ GE387.out) | exact HB.out)) hb); clear HO_6; clear HO_11; clear BK387; clear HB; have HO_6 := n0_; have HO_11 := n1_; have HO402 := n2_; have BK387 := n3_; have HB := n4_; clear n0_ n1_ n2_ n3_ n4_; (try clear hb); (try clear hb2); (try clear hk); (try clear hi); (try clear ho0); obtain ⟨Ao63, co63, eo63⟩ := Kd.R_slice HO402.out; subst eo63) | ((with_reducible refine gate_builtin (b := .append) (xs := #[.tmp 111, .tmp 114]) rfl ?_); at_builtin; refine Kd.R_append_rows (Kd.int .u8) (w0 := w) w.heap.size rfl (.tmp 111) (.tmp 114) 78 5 (.int .u8 0) 1 rfl Try.underlying78 info5 rfl (by decide) (by omega) u11 x11_34 t400 _ _ _ (fun k_ => some k_ ≠ (u6 : Value).ownBlock ∧ some k_ ≠ (.slice Ao63 t400.length co63 : Value).ownBlock) (fun _ => False) rfl rfl ?aO ?aR (fun _ _ h => h) (fun _ h => h.elim) ?aF ?aB ?aS ?aL ?_; (case aR => repeat (first | exact (Kd.R_reads' HO402.out).2.2 | (with_reducible refine Kd.C_alloc ?_ _) | (with_reducible refine Kd.C_drewN ?_ _) | (with_reducible refine Kd.C_drew ?_))); (case aB => exact (by repeat (first | (with_reducible first | exact HB.out | apply wa | apply wn | apply wd | refine ws ?_ GE387.out) | exact HB.out))); (case aF => exact (fun k_ hk => ⟨Kd.fresh' (Kd.R_lt (by (with_reducible repeat (first | apply Kd.R_alloc | apply Kd.R_drewN | apply Kd.R_drew)); exact HO_6.out)) k_ hk, Kd.fresh' (Kd.R_lt (by (with_reducible repeat (first | apply Kd.R_alloc | apply Kd.R_drewN | apply Kd.R_drew)); exact HO402.out)) k_ hk⟩)); (case aO => exact (by (with_reducible repeat (first | apply Kd.R_alloc | apply Kd.R_drewN | apply Kd.R_drew)); exact HO_11.out)); (case aS => exact (below_size (by repeat (first | (with_reducible first | exact HB.out | apply wa | apply wn | apply wd | refine ws ?_ GE387.out) | exact HB.out)))); (case aL => have := LMc57.out; omega); intro v404 w62 ho hb hg hat; rw [← Ny403.out] at ho; have n0_ := asd (Kd.R_after (ok := (fun k_ => some k_ ≠ (.slice Ao63 t400.length co63 : Value).ownBlock)) (by (with_reducible repeat (first | apply Kd.R_alloc | apply Kd.R_drewN | apply Kd.R_drew)); exact Kd.R_mono HO_6.out (fun _ hk => ⟨hk.2, hk.1⟩)) hg hat); have n1_ := asd (blk_grown (g := gb387) (o := .cells #[.int .i64 ((rd_T64 l0 x8_2).f0), .int .i64 ((rd_T64 l0 x8_2).f1), .int .i64 ((rd_T64 l0 x8_2).f2), .int .i64 ((rd_T64 l0 x8_2).f3)] 64 (0, 0)) (by (with_reducible repeat first | apply bn | apply bd | apply ba); exact BK387.out) hg (Kd.R_ne HO_11.out BK387.out (by decide))); have n2_ := asd (Kd.R_after (ok := (fun k_ => some k_ ≠ (u6 : Value).ownBlock)) (by (with_reducible repeat (first | apply Kd.R_alloc | apply Kd.R_drewN | apply Kd.R_drew)); exact Kd.R_mono HO402.out (fun _ hk => ⟨hk.1.2, hk.2⟩)) hg hat); have n3_ := asd (hb); have n4_ := asd (ho); clear HO_6; clear BK387; clear HO402; clear HB; clear HO_11; have HO_6 := n0_; have BK387 := n1_; have HO402 := n2_; have HB := n3_; have HO405 := n4_; clear n0_ n1_ n2_ n3_ n4_; clear ho hb hg hat) | ((with_reducible refine gate_builtin (b := .append) (xs := #[.tmp 116, .tmp 119]) rfl ?_); at_builtin; refine Kd.R_append (Kd.int .u8) (w0 := w) w.heap.size rfl (.tmp 116) (.tmp 119) 78 5 (.int .u8 0) 1 rfl Try.underlying78 info5 rfl (by decide) (by omega) u6 x6_2 ((wrap64 (x10_34 + 16)) % 256) [.int .u8 ((wrap64 (x10_34 + 16)) % 256)] (fun k_ => some k_ ≠ (.slice Ao63 t400.length co63 : Value).ownBlock ∧ some k_ ≠ (v404 : Value).ownBlock) (fun _ => False) rfl rfl ?aP (fun _ hk => hk.elim) ?aF ?aO ?aB ?aS ?aL ?_; (case aP => exact rfl); (case aB => exact (by repeat (first | (with_reducible first | exact HB.out | apply wa | apply wn | apply wd | refine ws ?_ GE387.out) | exact HB.out))); (case aF => exact (fun k_ hk => ⟨Kd.fresh' (Kd.R_lt (by (with_reducible repeat (first | apply Kd.R_alloc | apply Kd.R_drewN | apply Kd.R_drew)); exact HO402.out)) k_ hk, Kd.fresh' (Kd.R_lt (by (with_reducible repeat (first | apply Kd.R_alloc | apply Kd.R_drewN | apply Kd.R_drew)); exact HO405.out)) k_ hk⟩)); (case aO => exact (by (with_reducible repeat (first | apply Kd.R_alloc | apply Kd.R_drewN | apply Kd.R_drew)); exact HO_6.out)); (case aS => exact (below_size (by repeat (first | (with_reducible first | exact HB.out | apply wa | apply wn | apply wd | refine ws ?_ GE387.out) | exact HB.out)))); (case aL => have := LMc58.out; omega); intro v407 w64 ho hb hg hat; rw [← Ny406.out] at ho; have n0_ := asd (blk_grown (g := gb387) (o := .cells #[.int .i64 ((rd_T64 l0 x8_2).f0), .int .i64 ((rd_T64 l0 x8_2).f1), .int .i64 ((rd_T64 l0 x8_2).f2), .int .i64 ((rd_T64 l0 x8_2).f3)] 64 (0, 0)) (by (with_reducible repeat first | apply bn | apply bd | apply ba); exact BK387.out) hg (Kd.R_ne HO_6.out BK387.out (by decide))); have n1_ := asd (Kd.R_after (ok := (fun k_ => some k_ ≠ (v404 : Value).ownBlock)) (by (with_reducible repeat (first | apply Kd.R_alloc | apply Kd.R_drewN | apply Kd.R_drew)); exact Kd.R_mono HO402.out (fun _ hk => ⟨hk.2, hk.1⟩)) hg hat); have n2_ := asd (Kd.R_after (ok := (fun k_ => some k_ ≠ (.slice Ao63 t400.length co63 : Value).ownBlock)) (by (with_reducible repeat (first | apply Kd.R_alloc | apply Kd.R_drewN | apply Kd.R_drew)); exact Kd.R_mono HO405.out (fun _ hk => ⟨hk.2, hk.1⟩)) hg hat); have n3_ := asd (hb); have n4_ := asd (ho); clear BK387; clear HO402; clear HO405; clear HB; clear HO_6; have BK387 := n0_; have HO402 := n1_; have HO405 := n2_; have HB := n3_; have HO408 := n4_; clear n0_ n1_ n2_ n3_ n4_; clear ho hb hg hat; obtain ⟨Ao66, co66, eo66⟩ := Kd.R_slice HO405.out; subst eo66) | ((with_reducible refine gate_builtin (b := .append) (xs := #[.tmp 120, .tmp 121]) rfl ?_); at_builtin; refine Kd.R_append_rows (Kd.int .u8) (w0 := w) w.heap.size rfl (.tmp 120) (.tmp 121) 78 5 (.int .u8 0) 1 rfl Try.underlying78 info5 rfl (by decide) (by omega) v407 y406 y403 _ _ _ (fun k_ => some k_ ≠ (.slice Ao63 t400.length co63 : Value).ownBlock ∧ some k_ ≠ (.slice Ao66 y403.length co66 : Value).ownBlock) (fun _ => False) rfl rfl ?aO ?aR (fun _ _ h => h) (fun _ h => h.elim) ?aF ?aB ?aS ?aL ?_; (case aR => repeat (first | exact (Kd.R_reads' HO405.out).2.2 | (with_reducible refine Kd.C_alloc ?_ _) | (with_reducible refine Kd.C_drewN ?_ _) | (with_reducible refine Kd.C_drew ?_))); (case aB => exact (by repeat (first | (with_reducible first | exact HB.out | apply wa | apply wn | apply wd | refine ws ?_ GE387.out) | exact HB.out))); (case aF => exact (fun k_ hk => ⟨Kd.fresh' (Kd.R_lt (by (with_reducible repeat (first | apply Kd.R_alloc | apply Kd.R_drewN | apply Kd.R_drew)); exact HO402.out)) k_ hk, Kd.fresh' (Kd.R_lt (by (with_reducible repeat (first | apply Kd.R_alloc | apply Kd.R_drewN | apply Kd.R_drew)); exact HO405.out)) k_ hk⟩)); (case aO => exact (by (with_reducible repeat (first | apply Kd.R_alloc | apply Kd.R_drewN | apply Kd.R_drew)); exact HO408.out)); (case aS => exact (below_size (by repeat (first | (with_reducible first | exact HB.out | apply wa | apply wn | apply wd | refine ws ?_ GE387.out) | exact HB.out)))); (case aL => have := LMc59.out; omega); intro v410 w65 ho hb hg hat; rw [← Ny409.out] at ho; have n0_ := asd (blk_grown (g := gb387) (o := .cells #[.int .i64 ((rd_T64 l0 x8_2).f0), .int .i64 ((rd_T64 l0 x8_2).f1), .int .i64 ((rd_T64 l0 x8_2).f2), .int .i64 ((rd_T64 l0 x8_2).f3)] 64 (0, 0)) (by (with_reducible repeat first | apply bn | apply bd | apply ba); exact BK387.out) hg (Kd.R_ne HO408.out BK387.out (by decide))); have n1_ := asd (Kd.R_after (ok := (fun k_ => some k_ ≠ (.slice Ao66 y403.length co66 : Value).ownBlock)) (by (with_reducible repeat (first | apply Kd.R_alloc | apply Kd.R_drewN | apply Kd.R_drew)); exact HO402.out) hg hat); have n2_ := asd (Kd.R_after (ok := (fun k_ => some k_ ≠ (.slice Ao63 t400.length co63 : Value).ownBlock)) (by (with_reducible repeat (first | apply Kd.R_alloc | apply Kd.R_drewN | apply Kd.R_drew)); exact HO405.out) hg hat); have n3_ := asd (hb); have n4_ := asd (ho); clear BK387; clear HO402; clear HO405; clear HB; clear HO408; have BK387 := n0_; have HO402 := n1_; have HO405 := n2_; have HB := n3_; have HO411 := n4_; clear n0_ n1_ n2_ n3_ n4_; clear ho hb hg hat; have hcz67_0 : w65.cell? ⟨gb387, 0, none⟩ = some (.int .i64 ((rd_T64 l0 x8_2).f0)) := (blk_cell BK387.out 0).trans rfl; have hcz67_1 : w65.cell? ⟨gb387, 1, none⟩ = some (.int .i64 ((rd_T64 l0 x8_2).f1)) := (blk_cell BK387.out 1).trans rfl; have hcz67_2 : w65.cell? ⟨gb387, 2, none⟩ = some (.int .i64 ((rd_T64 l0 x8_2).f2)) := (blk_cell BK387.out 2).trans rfl; have hcz67_3 : w65.cell? ⟨gb387, 3, none⟩ = some (.int .i64 ((rd_T64 l0 x8_2).f3)) := (blk_cell BK387.out 3).trans rfl; have hfz67_0 := blk_frozen BK387.out 0; have hfz67_1 := blk_frozen BK387.out 1; have hfz67_2 := blk_frozen BK387.out 2; have hfz67_3 := blk_frozen BK387.out 3))
                go_roundg kj34
                case measure => have := HK1.out; have := HK2.out; have := HJ34.out; omega
                case rel => exact ⟨(y409), (((rd_T64 l0 x8_2).f0)), (wrap64 (x8_2 + 1)), (by first | rfl | (simp; done) | (simp [*]; done)), (by first | rfl | (simp; done) | (simp [*]; done)), H', ⟨by have := HK1.out; have := HK2.out; have := HJ34.out; omega⟩, ⟨by (with_reducible repeat (first | apply Kd.R_alloc | apply Kd.R_drewN | apply Kd.R_drew)); exact Kd.R_mono HO411.out (fun _ hk => trivial)⟩, ⟨by repeat (first | (with_reducible first | exact HB.out | apply wa | apply wn | apply wd | refine ws ?_ GE387.out) | exact HB.out)⟩⟩
               ·rw [if_neg c59] at H
                exact absurd H (by simp)
              ·rw [if_neg c58] at H
               exact absurd H (by simp)
             ·rw [if_neg c57] at H
              exact absurd H (by simp)
           ·rw [if_neg c47] at H
            have c47b0 : (((rd_T64 l0 x8_2).f2) == 0) = false := beq_eq_false_iff_ne.mpr c47
            have c47b1 : (((rd_T64 l0 x8_2).f2) != 0) = true := bne_iff_ne.mpr c47
            replace H := Option.bind_eq_some_iff.mp H
            obtain ⟨t412, A680, H⟩ := H
            replace H : (if x11_34.length + t412.length < 140737488355328 then ((some (x11_34 ++ t412 : List Int)).bind fun y415 => (if ((rd_T64 l0 x8_2).f3) = 0 then (if x6_2.length < 140737488355328 then ((some (x6_2 ++ [(wrap64 (x10_34 + 32)) % 256] : List Int)).bind fun y418 => (if y418.length + y415.length < 140737488355328 then (parcloseref36_Put.l1 kj34 l0 (y418 ++ y415) ((rd_T64 l0 x8_2).f0) (wrap64 (x8_2 + 1))) else (none))) else (none)) else ((parcloseref02_Number.f kj34 7 ((rd_T64 l0 x8_2).f3)).bind fun t424 => (if y415.length + t424.length < 140737488355328 then ((some (y415 ++ t424 : List Int)).bind fun y427 => (if x6_2.length < 140737488355328 then ((some (x6_2 ++ [(x10_34) % 256] : List Int)).bind fun y430 => (if y430.length + y427.length < 140737488355328 then (parcloseref36_Put.l1 kj34 l0 (y430 ++ y427) ((rd_T64 l0 x8_2).f0) (wrap64 (x8_2 + 1))) else (none))) else (none))) else (none))))) else (none)) = some (r1, r2) := H
            have A68 := asd A680
            clear A680
            by_cases c69 : x11_34.length + t412.length < 140737488355328
            ·rw [if_pos c69] at H
             have LMc69 := asd c69
             clear c69
             obtain ⟨y415, hy415⟩ : ∃ y_ : List Int, y_ = (x11_34 ++ t412) := ⟨_, rfl⟩
             replace H : (if ((rd_T64 l0 x8_2).f3) = 0 then (if x6_2.length < 140737488355328 then ((some (x6_2 ++ [(wrap64 (x10_34 + 32)) % 256] : List Int)).bind fun y418 => (if y418.length + y415.length < 140737488355328 then (parcloseref36_Put.l1 kj34 l0 (y418 ++ y415) ((rd_T64 l0 x8_2).f0) (wrap64 (x8_2 + 1))) else (none))) else (none)) else ((parcloseref02_Number.f kj34 7 ((rd_T64 l0 x8_2).f3)).bind fun t424 => (if y415.length + t424.length < 140737488355328 then ((some (y415 ++ t424 : List Int)).bind fun y427 => (if x6_2.length < 140737488355328 then ((some (x6_2 ++ [(x10_34) % 256] : List Int)).bind fun y430 => (if y430.length + y427.length < 140737488355328 then (parcloseref36_Put.l1 kj34 l0 (y430 ++ y427) ((rd_T64 l0 x8_2).f0) (wrap64 (x8_2 + 1))) else (none))) else (none))) else (none)))) = some (r1, r2) := by first | (rw [hy415]; with_reducible exact H) | (have H2_ := (Option.bind_some _ _).symm.trans H; rw [hy415]; with_reducible exact H2_) | (have H2_ := (Option.bind_some _ _).symm.trans H; with_reducible exact H2_) | with_reducible exact H | (rw [hy415]; exact H) | exact H
             have Ny415 := asd hy415
             clear hy415
             by_cases c70 : ((rd_T64 l0 x8_2).f3) = 0
             ·rw [if_pos c70] at H
              have c70b0 : (((rd_T64 l0 x8_2).f3) == 0) = true := beq_iff_eq.mpr c70
              have c70b1 : (((rd_T64 l0 x8_2).f3) != 0) = false := bne_eq_false_iff_eq.mpr c70
              clear c70
              by_cases c71 : x6_2.length < 140737488355328
              ·rw [if_pos c71] at H
               have LMc71 := asd c71
               clear c71
               obtain ⟨y418, hy418⟩ : ∃ y_ : List Int, y_ = (x6_2 ++ [(wrap64 (x10_34 + 32)) % 256]) := ⟨_, rfl⟩
               replace H : (if y418.length + y415.length < 140737488355328 then (parcloseref36_Put.l1 kj34 l0 (y418 ++ y415) ((rd_T64 l0 x8_2).f0) (wrap64 (x8_2 + 1))) else (none)) = some (r1, r2) := by first | (rw [hy418]; with_reducible exact H) | (have H2_ := (Option.bind_some _ _).symm.trans H; rw [hy418]; with_reducible exact H2_) | (have H2_ := (Option.bind_some _ _).symm.trans H; with_reducible exact H2_) | with_reducible exact H | (rw [hy418]; exact H) | exact H
               have Ny418 := asd hy418
               clear hy418
               by_cases c72 : y418.length + y415.length < 140737488355328
               ·rw [if_pos c72] at H
                have LMc72 := asd c72
                clear c72
                obtain ⟨y421, hy421⟩ : ∃ y_ : List Int, y_ = (y418 ++ y415) := ⟨_, rfl⟩
                replace H : (parcloseref36_Put.l1 kj34 l0 y421 ((rd_T64 l0 x8_2).f0) (wrap64 (x8_2 + 1))) = some (r1, r2) := by first | (rw [hy421]; with_reducible exact H) | (have H2_ := (Option.bind_some _ _).symm.trans H; rw [hy421]; with_reducible exact H2_) | (have H2_ := (Option.bind_some _ _).symm.trans H; with_reducible exact H2_) | with_reducible exact H | (rw [hy421]; exact H) | exact H
                have Ny421 := asd hy421
                clear hy421
                have H' := asd H
                clear H
                have hcz73_0 : wc.cell? ⟨gb387, 0, none⟩ = some (.int .i64 ((rd_T64 l0 x8_2).f0)) := (blk_cell BK387.out 0).trans rfl
                have hcz73_1 : wc.cell? ⟨gb387, 1, none⟩ = some (.int .i64 ((rd_T64 l0 x8_2).f1)) := (blk_cell BK387.out 1).trans rfl
                have hcz73_2 : wc.cell? ⟨gb387, 2, none⟩ = some (.int .i64 ((rd_T64 l0 x8_2).f2)) := (blk_cell BK387.out 2).trans rfl
                have hcz73_3 : wc.cell? ⟨gb387, 3, none⟩ = some (.int .i64 ((rd_T64 l0 x8_2).f3)) := (blk_cell BK387.out 3).trans rfl
                have hfz73_0 := blk_frozen BK387.out 0
                have hfz73_1 := blk_frozen BK387.out 1
                have hfz73_2 := blk_frozen BK387.out 2
                have hfz73_3 := blk_frozen BK387.out 3
                go_wp2_with (first | ((with_reducible refine gate_callee (f := 93) rfl ?_); refine goesL_ (some 104) rfl rfl Try.func93 (by kernel_rfl) rfl #[.int .i64 7, .int .i64 ((rd_T64 l0 x8_2).f2)] rfl (by (try simp only [List.map_toArray, List.map_cons, List.map_nil]); first | done | rfl | (simp only [List.length_drop, List.length_take]; rfl)) ?_; (with_reducible refine (parcloseref02_Number.calls kj34 7 ((rd_T64 l0 x8_2).f2) t412 _ A68.out).mono ?_); rintro e w74 ⟨v413, rfl, ho0, hb⟩; refine ⟨_, rfl, ?_⟩; have n0_ := asd (Kd.R_elder' (by (with_reducible repeat (first | apply Kd.R_alloc | apply Kd.R_drewN | apply Kd.R_drew)); exact HO_6.out) (Kd.R_base ho0) hb); have n1_ := asd (Kd.R_elder' (by (with_reducible repeat (first | apply Kd.R_alloc | apply Kd.R_drewN | apply Kd.R_drew)); exact HO_11.out) (Kd.R_base ho0) hb); have n2_ := asd (Kd.R_lower (Kd.R_new' (Kd.R_new' ho0 (Kd.R_lt (by (with_reducible repeat (first | apply Kd.R_alloc | apply Kd.R_drewN | apply Kd.R_drew)); exact HO_6.out))) (Kd.R_lt (by (with_reducible repeat (first | apply Kd.R_alloc | apply Kd.R_drewN | apply Kd.R_drew)); exact HO_11.out))) (below_size (by repeat (first | (with_reducible first | exact HB.out | apply wa | apply wn | apply wd | refine ws ?_ GE387.out) | exact HB.out)))); have n3_ := asd (blk_below (g := gb387) (o := .cells #[.int .i64 ((rd_T64 l0 x8_2).f0), .int .i64 ((rd_T64 l0 x8_2).f1), .int .i64 ((rd_T64 l0 x8_2).f2), .int .i64 ((rd_T64 l0 x8_2).f3)] 64 (0, 0)) (by (with_reducible repeat first | apply bn | apply bd | apply ba); exact BK387.out) hb); have n4_ := asd (below_step (by repeat (first | (with_reducible first | exact HB.out | apply wa | apply wn | apply wd | refine ws ?_ GE387.out) | exact HB.out)) hb); clear HO_6; clear HO_11; clear BK387; clear HB; have HO_6 := n0_; have HO_11 := n1_; have HO414 := n2_; have BK387 := n3_; have HB := n4_; clear n0_ n1_ n2_ n3_ n4_; (try clear hb); (try clear hb2); (try clear hk); (try clear hi); (try clear ho0); obtain ⟨Ao76, co76, eo76⟩ := Kd.R_slice HO414.out; subst eo76) | ((with_reducible refine gate_builtin (b := .append) (xs := #[.tmp 101, .tmp 104]) rfl ?_); at_builtin; refine Kd.R_append_rows (Kd.int .u8) (w0 := w) w.heap.size rfl (.tmp 101) (.tmp 104) 78 5 (.int .u8 0) 1 rfl Try.underlying78 info5 rfl (by decide) (by omega) u11 x11_34 t412 _ _ _ (fun k_ => some k_ ≠ (u6 : Value).ownBlock ∧ some k_ ≠ (.slice Ao76 t412.length co76 : Value).ownBlock) (fun _ => False) rfl rfl ?aO ?aR (fun _ _ h => h) (fun _ h => h.elim) ?aF ?aB ?aS ?aL ?_; (case aR => repeat (first | exact (Kd.R_reads' HO414.out).2.2 | (with_reducible refine Kd.C_alloc ?_ _) | (with_reducible refine Kd.C_drewN ?_ _) | (with_reducible refine Kd.C_drew ?_))); (case aB => exact (by repeat (first | (with_reducible first | exact HB.out | apply wa | apply wn | apply wd | refine ws ?_ GE387.out) | exact HB.out))); (case aF => exact (fun k_ hk => ⟨Kd.fresh' (Kd.R_lt (by (with_reducible repeat (first | apply Kd.R_alloc | apply Kd.R_drewN | apply Kd.R_drew)); exact HO_6.out)) k_ hk, Kd.fresh' (Kd.R_lt (by (with_reducible repeat (first | apply Kd.R_alloc | apply Kd.R_drewN | apply Kd.R_drew)); exact HO414.out)) k_ hk⟩)); (case aO => exact (by (with_reducible repeat (first | apply Kd.R_alloc | apply Kd.R_drewN | apply Kd.R_drew)); exact HO_11.out)); (case aS => exact (below_size (by repeat (first | (with_reducible first | exact HB.out | apply wa | apply wn | apply wd | refine ws ?_ GE387.out) | exact HB.out)))); (case aL => have := LMc69.out; omega); intro v416 w75 ho hb hg hat; rw [← Ny415.out] at ho; have n0_ := asd (Kd.R_after (ok := (fun k_ => some k_ ≠ (.slice Ao76 t412.length co76 : Value).ownBlock)) (by (with_reducible repeat (first | apply Kd.R_alloc | apply Kd.R_drewN | apply Kd.R_drew)); exact Kd.R_mono HO_6.out (fun _ hk => ⟨hk.2, hk.1⟩)) hg hat); have n1_ := asd (blk_grown (g := gb387) (o := .cells #[.int .i64 ((rd_T64 l0 x8_2).f0), .int .i64 ((rd_T64 l0 x8_2).f1), .int .i64 ((rd_T64 l0 x8_2).f2), .int .i64 ((rd_T64 l0 x8_2).f3)] 64 (0, 0)) (by (with_reducible repeat first | apply bn | apply bd | apply ba); exact BK387.out) hg (Kd.R_ne HO_11.out BK387.out (by decide))); have n2_ := asd (Kd.R_after (ok := (fun k_ => some k_ ≠ (u6 : Value).ownBlock)) (by (with_reducible repeat (first | apply Kd.R_alloc | apply Kd.R_drewN | apply Kd.R_drew)); exact Kd.R_mono HO414.out (fun _ hk => ⟨hk.1.2, hk.2⟩)) hg hat); have n3_ := asd (hb); have n4_ := asd (ho); clear HO_6; clear BK387; clear HO414; clear HB; clear HO_11; have HO_6 := n0_; have BK387 := n1_; have HO414 := n2_; have HB := n3_; have HO417 := n4_; clear n0_ n1_ n2_ n3_ n4_; clear ho hb hg hat; have hcz77_0 : w75.cell? ⟨gb387, 0, none⟩ = some (.int .i64 ((rd_T64 l0 x8_2).f0)) := (blk_cell BK387.out 0).trans rfl; have hcz77_1 : w75.cell? ⟨gb387, 1, none⟩ = some (.int .i64 ((rd_T64 l0 x8_2).f1)) := (blk_cell BK387.out 1).trans rfl; have hcz77_2 : w75.cell? ⟨gb387, 2, none⟩ = some (.int .i64 ((rd_T64 l0 x8_2).f2)) := (blk_cell BK387.out 2).trans rfl; have hcz77_3 : w75.cell? ⟨gb387, 3, none⟩ = some (.int .i64 ((rd_T64 l0 x8_2).f3)) := (blk_cell BK387.out 3).trans rfl; have hfz77_0 := blk_frozen BK387.out 0; have hfz77_1 := blk_frozen BK387.out 1; have hfz77_2 := blk_frozen BK387.out 2; have hfz77_3 := blk_frozen BK387.out 3) | ((with_reducible refine gate_builtin (b := .append) (xs := #[.tmp 116, .tmp 119]) rfl ?_); at_builtin; refine Kd.R_append (Kd.int .u8) (w0 := w) w.heap.size rfl (.tmp 116) (.tmp 119) 78 5 (.int .u8 0) 1 rfl Try.underlying78 info5 rfl (by decide) (by omega) u6 x6_2 ((wrap64 (x10_34 + 32)) % 256) [.int .u8 ((wrap64 (x10_34 + 32)) % 256)] (fun k_ => some k_ ≠ (.slice Ao76 t412.length co76 : Value).ownBlock ∧ some k_ ≠ (v416 : Value).ownBlock) (fun _ => False) rfl rfl ?aP (fun _ hk => hk.elim) ?aF ?aO ?aB ?aS ?aL ?_; (case aP => exact rfl); (case aB => exact (by repeat (first | (with_reducible first | exact HB.out | apply wa | apply wn | apply wd | refine ws ?_ GE387.out) | exact HB.out))); (case aF => exact (fun k_ hk => ⟨Kd.fresh' (Kd.R_lt (by (with_reducible repeat (first | apply Kd.R_alloc | apply Kd.R_drewN | apply Kd.R_drew)); exact HO414.out)) k_ hk, Kd.fresh' (Kd.R_lt (by (with_reducible repeat (first | apply Kd.R_alloc | apply Kd.R_drewN | apply Kd.R_drew)); exact HO417.out)) k_ hk⟩)); (case aO => exact (by (with_reducible repeat (first | apply Kd.R_alloc | apply Kd.R_drewN | apply Kd.R_drew)); exact HO_6.out)); (case aS => exact (below_size (by repeat (first | (with_reducible first | exact HB.out | apply wa | apply wn | apply wd | refine ws ?_ GE387.out) | exact HB.out)))); (case aL => have := LMc71.out; omega); intro v419 w78 ho hb hg hat; rw [← Ny418.out] at ho; have n0_ := asd (blk_grown (g := gb387) (o := .cells #[.int .i64 ((rd_T64 l0 x8_2).f0), .int .i64 ((rd_T64 l0 x8_2).f1), .int .i64 ((rd_T64 l0 x8_2).f2), .int .i64 ((rd_T64 l0 x8_2).f3)] 64 (0, 0)) (by (with_reducible repeat first | apply bn | apply bd | apply ba); exact BK387.out) hg (Kd.R_ne HO_6.out BK387.out (by decide))); have n1_ := asd (Kd.R_after (ok := (fun k_ => some k_ ≠ (v416 : Value).ownBlock)) (by (with_reducible repeat (first | apply Kd.R_alloc | apply Kd.R_drewN | apply Kd.R_drew)); exact Kd.R_mono HO414.out (fun _ hk => ⟨hk.2, hk.1⟩)) hg hat); have n2_ := asd (Kd.R_after (ok := (fun k_ => some k_ ≠ (.slice Ao76 t412.length co76 : Value).ownBlock)) (by (with_reducible repeat (first | apply Kd.R_alloc | apply Kd.R_drewN | apply Kd.R_drew)); exact Kd.R_mono HO417.out (fun _ hk => ⟨hk.2, hk.1⟩)) hg hat); have n3_ := asd (hb); have n4_ := asd (ho); clear BK387; clear HO414; clear HO417; clear HB; clear HO_6; have BK387 := n0_; have HO414 := n1_; have HO417 := n2_; have HB := n3_; have HO420 := n4_; clear n0_ n1_ n2_ n3_ n4_; clear ho hb hg hat; obtain ⟨Ao80, co80, eo80⟩ := Kd.R_slice HO417.out; subst eo80) | ((with_reducible refine gate_builtin (b := .append) (xs := #[.tmp 120, .tmp 121]) rfl ?_); at_builtin; refine Kd.R_append_rows (Kd.int .u8) (w0 := w) w.heap.size rfl (.tmp 120) (.tmp 121) 78 5 (.int .u8 0) 1 rfl Try.underlying78 info5 rfl (by decide) (by omega) v419 y418 y415 _ _ _ (fun k_ => some k_ ≠ (.slice Ao76 t412.length co76 : Value).ownBlock ∧ some k_ ≠ (.slice Ao80 y415.length co80 : Value).ownBlock) (fun _ => False) rfl rfl ?aO ?aR (fun _ _ h => h) (fun _ h => h.elim) ?aF ?aB ?aS ?aL ?_; (case aR => repeat (first | exact (Kd.R_reads' HO417.out).2.2 | (with_reducible refine Kd.C_alloc ?_ _) | (with_reducible refine Kd.C_drewN ?_ _) | (with_reducible refine Kd.C_drew ?_))); (case aB => exact (by repeat (first | (with_reducible first | exact HB.out | apply wa | apply wn | apply wd | refine ws ?_ GE387.out) | exact HB.out))); (case aF => exact (fun k_ hk => ⟨Kd.fresh' (Kd.R_lt (by (with_reducible repeat (first | apply Kd.R_alloc | apply Kd.R_drewN | apply Kd.R_drew)); exact HO414.out)) k_ hk, Kd.fresh' (Kd.R_lt (by (with_reducible repeat (first | apply Kd.R_alloc | apply Kd.R_drewN | apply Kd.R_drew)); exact HO417.out)) k_ hk⟩)); (case aO => exact (by (with_reducible repeat (first | apply Kd.R_alloc | apply Kd.R_drewN | apply Kd.R_drew)); exact HO420.out)); (case aS => exact (below_size (by repeat (first | (with_reducible first | exact HB.out | apply wa | apply wn | apply wd | refine ws ?_ GE387.out) | exact HB.out)))); (case aL => have := LMc72.out; omega); intro v422 w79 ho hb hg hat; rw [← Ny421.out] at ho; have n0_ := asd (blk_grown (g := gb387) (o := .cells #[.int .i64 ((rd_T64 l0 x8_2).f0), .int .i64 ((rd_T64 l0 x8_2).f1), .int .i64 ((rd_T64 l0 x8_2).f2), .int .i64 ((rd_T64 l0 x8_2).f3)] 64 (0, 0)) (by (with_reducible repeat first | apply bn | apply bd | apply ba); exact BK387.out) hg (Kd.R_ne HO420.out BK387.out (by decide))); have n1_ := asd (Kd.R_after (ok := (fun k_ => some k_ ≠ (.slice Ao80 y415.length co80 : Value).ownBlock)) (by (with_reducible repeat (first | apply Kd.R_alloc | apply Kd.R_drewN | apply Kd.R_drew)); exact HO414.out) hg hat); have n2_ := asd (Kd.R_after (ok := (fun k_ => some k_ ≠ (.slice Ao76 t412.length co76 : Value).ownBlock)) (by (with_reducible repeat (first | apply Kd.R_alloc | apply Kd.R_drewN | apply Kd.R_drew)); exact HO417.out) hg hat); have n3_ := asd (hb); have n4_ := asd (ho); clear BK387; clear HO414; clear HO417; clear HB; clear HO420; have BK387 := n0_; have HO414 := n1_; have HO417 := n2_; have HB := n3_; have HO423 := n4_; clear n0_ n1_ n2_ n3_ n4_; clear ho hb hg hat; have hcz81_0 : w79.cell? ⟨gb387, 0, none⟩ = some (.int .i64 ((rd_T64 l0 x8_2).f0)) := (blk_cell BK387.out 0).trans rfl; have hcz81_1 : w79.cell? ⟨gb387, 1, none⟩ = some (.int .i64 ((rd_T64 l0 x8_2).f1)) := (blk_cell BK387.out 1).trans rfl; have hcz81_2 : w79.cell? ⟨gb387, 2, none⟩ = some (.int .i64 ((rd_T64 l0 x8_2).f2)) := (blk_cell BK387.out 2).trans rfl; have hcz81_3 : w79.cell? ⟨gb387, 3, none⟩ = some (.int .i64 ((rd_T64 l0 x8_2).f3)) := (blk_cell BK387.out 3).trans rfl; have hfz81_0 := blk_frozen BK387.out 0; have hfz81_1 := blk_frozen BK387.out 1; have hfz81_2 := blk_frozen BK387.out 2; have hfz81_3 := blk_frozen BK387.out 3))
                go_roundg kj34
                case measure => have := HK1.out; have := HK2.out; have := HJ34.out; omega
                case rel => exact ⟨(y421), (((rd_T64 l0 x8_2).f0)), (wrap64 (x8_2 + 1)), (by first | rfl | (simp; done) | (simp [*]; done)), (by first | rfl | (simp; done) | (simp [*]; done)), H', ⟨by have := HK1.out; have := HK2.out; have := HJ34.out; omega⟩, ⟨by (with_reducible repeat (first | apply Kd.R_alloc | apply Kd.R_drewN | apply Kd.R_drew)); exact Kd.R_mono HO423.out (fun _ hk => trivial)⟩, ⟨by repeat (first | (with_reducible first | exact HB.out | apply wa | apply wn | apply wd | refine ws ?_ GE387.out) | exact HB.out)⟩⟩
               ·rw [if_neg c72] at H
                exact absurd H (by simp)
              ·rw [if_neg c71] at H
               exact absurd H (by simp)
             ·rw [if_neg c70] at H
              have c70b0 : (((rd_T64 l0 x8_2).f3) == 0) = false := beq_eq_false_iff_ne.mpr c70
              have c70b1 : (((rd_T64 l0 x8_2).f3) != 0) = true := bne_iff_ne.mpr c70
              replace H := Option.bind_eq_some_iff.mp H
              obtain ⟨t424, A820, H⟩ := H
              replace H : (if y415.length + t424.length < 140737488355328 then ((some (y415 ++ t424 : List Int)).bind fun y427 => (if x6_2.length < 140737488355328 then ((some (x6_2 ++ [(x10_34) % 256] : List Int)).bind fun y430 => (if y430.length + y427.length < 140737488355328 then (parcloseref36_Put.l1 kj34 l0 (y430 ++ y427) ((rd_T64 l0 x8_2).f0) (wrap64 (x8_2 + 1))) else (none))) else (none))) else (none)) = some (r1, r2) := H
              have A82 := asd A820
              clear A820
              by_cases c83 : y415.length + t424.length < 140737488355328
              ·rw [if_pos c83] at H
               have LMc83 := asd c83
               clear c83
               obtain ⟨y427, hy427⟩ : ∃ y_ : List Int, y_ = (y415 ++ t424) := ⟨_, rfl⟩
               replace H : (if x6_2.length < 140737488355328 then ((some (x6_2 ++ [(x10_34) % 256] : List Int)).bind fun y430 => (if y430.length + y427.length < 140737488355328 then (parcloseref36_Put.l1 kj34 l0 (y430 ++ y427) ((rd_T64 l0 x8_2).f0) (wrap64 (x8_2 + 1))) else (none))) else (none)) = some (r1, r2) := by first | (rw [hy427]; with_reducible exact H) | (have H2_ := (Option.bind_some _ _).symm.trans H; rw [hy427]; with_reducible exact H2_) | (have H2_ := (Option.bind_some _ _).symm.trans H; with_reducible exact H2_) | with_reducible exact H | (rw [hy427]; exact H) | exact H
               have Ny427 := asd hy427
               clear hy427
               by_cases c84 : x6_2.length < 140737488355328
               ·rw [if_pos c84] at H
                have LMc84 := asd c84
                clear c84
                obtain ⟨y430, hy430⟩ : ∃ y_ : List Int, y_ = (x6_2 ++ [(x10_34) % 256]) := ⟨_, rfl⟩
                replace H : (if y430.length + y427.length < 140737488355328 then (parcloseref36_Put.l1 kj34 l0 (y430 ++ y427) ((rd_T64 l0 x8_2).f0) (wrap64 (x8_2 + 1))) else (none)) = some (r1, r2) := by first | (rw [hy430]; with_reducible exact H) | (have H2_ := (Option.bind_some _ _).symm.trans H; rw [hy430]; with_reducible exact H2_) | (have H2_ := (Option.bind_some _ _).symm.trans H; with_reducible exact H2_) | with_reducible exact H | (rw [hy430]; exact H) | exact H
                have Ny430 := asd hy430
                clear hy430
                by_cases c85 : y430.length + y427.length < 140737488355328
                ·rw [if_pos c85] at H
                 have LMc85 := asd c85
                 clear c85
                 obtain ⟨y433, hy433⟩ : ∃ y_ : List Int, y_ = (y430 ++ y427) := ⟨_, rfl⟩
                 replace H : (parcloseref36_Put.l1 kj34 l0 y433 ((rd_T64 l0 x8_2).f0) (wrap64 (x8_2 + 1))) = some (r1, r2) := by first | (rw [hy433]; with_reducible exact H) | (have H2_ := (Option.bind_some _ _).symm.trans H; rw [hy433]; with_reducible exact H2_) | (have H2_ := (Option.bind_some _ _).symm.trans H; with_reducible exact H2_) | with_reducible exact H | (rw [hy433]; exact H) | exact H
                 have Ny433 := asd hy433
                 clear hy433
                 have H' := asd H
                 clear H
                 have hcz86_0 : wc.cell? ⟨gb387, 0, none⟩ = some (.int .i64 ((rd_T64 l0 x8_2).f0)) := (blk_cell BK387.out 0).trans rfl
                 have hcz86_1 : wc.cell? ⟨gb387, 1, none⟩ = some (.int .i64 ((rd_T64 l0 x8_2).f1)) := (blk_cell BK387.out 1).trans rfl
                 have hcz86_2 : wc.cell? ⟨gb387, 2, none⟩ = some (.int .i64 ((rd_T64 l0 x8_2).f2)) := (blk_cell BK387.out 2).trans rfl
                 have hcz86_3 : wc.cell? ⟨gb387, 3, none⟩ = some (.int .i64 ((rd_T64 l0 x8_2).f3)) := (blk_cell BK387.out 3).trans rfl
                 have hfz86_0 := blk_frozen BK387.out 0
                 have hfz86_1 := blk_frozen BK387.out 1
                 have hfz86_2 := blk_frozen BK387.out 2
                 have hfz86_3 := blk_frozen BK387.out 3
                 go_wp2_with (first | ((with_reducible refine gate_callee (f := 93) rfl ?_); refine goesL_ (some 104) rfl rfl Try.func93 (by kernel_rfl) rfl #[.int .i64 7, .int .i64 ((rd_T64 l0 x8_2).f2)] rfl (by (try simp only [List.map_toArray, List.map_cons, List.map_nil]); first | done | rfl | (simp only [List.length_drop, List.length_take]; rfl)) ?_; (with_reducible refine (parcloseref02_Number.calls kj34 7 ((rd_T64 l0 x8_2).f2) t412 _ A68.out).mono ?_); rintro e w87 ⟨v413, rfl, ho0, hb⟩; refine ⟨_, rfl, ?_⟩; have n0_ := asd (Kd.R_elder' (by (with_reducible repeat (first | apply Kd.R_alloc | apply Kd.R_drewN | apply Kd.R_drew)); exact HO_6.out) (Kd.R_base ho0) hb); have n1_ := asd (Kd.R_elder' (by (with_reducible repeat (first | apply Kd.R_alloc | apply Kd.R_drewN | apply Kd.R_drew)); exact HO_11.out) (Kd.R_base ho0) hb); have n2_ := asd (Kd.R_lower (Kd.R_new' (Kd.R_new' ho0 (Kd.R_lt (by (with_reducible repeat (first | apply Kd.R_alloc | apply Kd.R_drewN | apply Kd.R_drew)); exact HO_6.out))) (Kd.R_lt (by (with_reducible repeat (first | apply Kd.R_alloc | apply Kd.R_drewN | apply Kd.R_drew)); exact HO_11.out))) (below_size (by repeat (first | (with_reducible first | exact HB.out | apply wa | apply wn | apply wd | refine ws ?_ GE387.out) | exact HB.out)))); have n3_ := asd (blk_below (g := gb387) (o := .cells #[.int .i64 ((rd_T64 l0 x8_2).f0), .int .i64 ((rd_T64 l0 x8_2).f1), .int .i64 ((rd_T64 l0 x8_2).f2), .int .i64 ((rd_T64 l0 x8_2).f3)] 64 (0, 0)) (by (with_reducible repeat first | apply bn | apply bd | apply ba); exact BK387.out) hb); have n4_ := asd (below_step (by repeat (first | (with_reducible first | exact HB.out | apply wa | apply wn | apply wd | refine ws ?_ GE387.out) | exact HB.out)) hb); clear HO_6; clear HO_11; clear BK387; clear HB; have HO_6 := n0_; have HO_11 := n1_; have HO414 := n2_; have BK387 := n3_; have HB := n4_; clear n0_ n1_ n2_ n3_ n4_; (try clear hb); (try clear hb2); (try clear hk); (try clear hi); (try clear ho0); obtain ⟨Ao89, co89, eo89⟩ := Kd.R_slice HO414.out; subst eo89) | ((with_reducible refine gate_builtin (b := .append) (xs := #[.tmp 101, .tmp 104]) rfl ?_); at_builtin; refine Kd.R_append_rows (Kd.int .u8) (w0 := w) w.heap.size rfl (.tmp 101) (.tmp 104) 78 5 (.int .u8 0) 1 rfl Try.underlying78 info5 rfl (by decide) (by omega) u11 x11_34 t412 _ _ _ (fun k_ => some k_ ≠ (u6 : Value).ownBlock ∧ some k_ ≠ (.slice Ao89 t412.length co89 : Value).ownBlock) (fun _ => False) rfl rfl ?aO ?aR (fun _ _ h => h) (fun _ h => h.elim) ?aF ?aB ?aS ?aL ?_; (case aR => repeat (first | exact (Kd.R_reads' HO414.out).2.2 | (with_reducible refine Kd.C_alloc ?_ _) | (with_reducible refine Kd.C_drewN ?_ _) | (with_reducible refine Kd.C_drew ?_))); (case aB => exact (by repeat (first | (with_reducible first | exact HB.out | apply wa | apply wn | apply wd | refine ws ?_ GE387.out) | exact HB.out))); (case aF => exact (fun k_ hk => ⟨Kd.fresh' (Kd.R_lt (by (with_reducible repeat (first | apply Kd.R_alloc | apply Kd.R_drewN | apply Kd.R_drew)); exact HO_6.out)) k_ hk, Kd.fresh' (Kd.R_lt (by (with_reducible repeat (first | apply Kd.R_alloc | apply Kd.R_drewN | apply Kd.R_drew)); exact HO414.out)) k_ hk⟩)); (case aO => exact (by (with_reducible repeat (first | apply Kd.R_alloc | apply Kd.R_drewN | apply Kd.R_drew)); exact HO_11.out)); (case aS => exact (below_size (by repeat (first | (with_reducible first | exact HB.out | apply wa | apply wn | apply wd | refine ws ?_ GE387.out) | exact HB.out)))); (case aL => have := LMc69.out; omega); intro v416 w88 ho hb hg hat; rw [← Ny415.out] at ho; have n0_ := asd (Kd.R_after (ok := (fun k_ => some k_ ≠ (.slice Ao89 t412.length co89 : Value).ownBlock)) (by (with_reducible repeat (first | apply Kd.R_alloc | apply Kd.R_drewN | apply Kd.R_drew)); exact Kd.R_mono HO_6.out (fun _ hk => ⟨hk.2, hk.1⟩)) hg hat); have n1_ := asd (blk_grown (g := gb387) (o := .cells #[.int .i64 ((rd_T64 l0 x8_2).f0), .int .i64 ((rd_T64 l0 x8_2).f1), .int .i64 ((rd_T64 l0 x8_2).f2), .int .i64 ((rd_T64 l0 x8_2).f3)] 64 (0, 0)) (by (with_reducible repeat first | apply bn | apply bd | apply ba); exact BK387.out) hg (Kd.R_ne HO_11.out BK387.out (by decide))); have n2_ := asd (Kd.R_after (ok := (fun k_ => some k_ ≠ (u6 : Value).ownBlock)) (by (with_reducible repeat (first | apply Kd.R_alloc | apply Kd.R_drewN | apply Kd.R_drew)); exact Kd.R_mono HO414.out (fun _ hk => ⟨hk.1.2, hk.2⟩)) hg hat); have n3_ := asd (hb); have n4_ := asd (ho); clear HO_6; clear BK387; clear HO414; clear HB; clear HO_11; have HO_6 := n0_; have BK387 := n1_; have HO414 := n2_; have HB := n3_; have HO417 := n4_; clear n0_ n1_ n2_ n3_ n4_; clear ho hb hg hat; have hcz90_0 : w88.cell? ⟨gb387, 0, none⟩ = some (.int .i64 ((rd_T64 l0 x8_2).f0)) := (blk_cell BK387.out 0).trans rfl; have hcz90_1 : w88.cell? ⟨gb387, 1, none⟩ = some (.int .i64 ((rd_T64 l0 x8_2).f1)) := (blk_cell BK387.out 1).trans rfl; have hcz90_2 : w88.cell? ⟨gb387, 2, none⟩ = some (.int .i64 ((rd_T64 l0 x8_2).f2)) := (blk_cell BK387.out 2).trans rfl; have hcz90_3 : w88.cell? ⟨gb387, 3, none⟩ = some (.int .i64 ((rd_T64 l0 x8_2).f3)) := (blk_cell BK387.out 3).trans rfl; have hfz90_0 := blk_frozen BK387.out 0; have hfz90_1 := blk_frozen BK387.out 1; have hfz90_2 := blk_frozen BK387.out 2; have hfz90_3 := blk_frozen BK387.out 3) | ((with_reducible refine gate_callee (f := 93) rfl ?_); refine goesL_ (some 114) rfl rfl Try.func93 (by kernel_rfl) rfl #[.int .i64 7, .int .i64 ((rd_T64 l0 x8_2).f3)] rfl (by (try simp only [List.map_toArray, List.map_cons, List.map_nil]); first | done | rfl | (simp only [List.length_drop, List.length_take]; rfl)) ?_; (with_reducible refine (parcloseref02_Number.calls kj34 7 ((rd_T64 l0 x8_2).f3) t424 _ A82.out).mono ?_); rintro e w91 ⟨v425, rfl, ho0, hb⟩; refine ⟨_, rfl, ?_⟩; have n0_ := asd (Kd.R_elder' (by (with_reducible repeat (first | apply Kd.R_alloc | apply Kd.R_drewN | apply Kd.R_drew)); exact HO_6.out) (Kd.R_base ho0) hb); have n1_ := asd (Kd.R_elder' (by (with_reducible repeat (first | apply Kd.R_alloc | apply Kd.R_drewN | apply Kd.R_drew)); exact HO414.out) (Kd.R_base ho0) hb); have n2_ := asd (Kd.R_elder' (by (with_reducible repeat (first | apply Kd.R_alloc | apply Kd.R_drewN | apply Kd.R_drew)); exact HO417.out) (Kd.R_base ho0) hb); have n3_ := asd (Kd.R_lower (Kd.R_new' (Kd.R_new' (Kd.R_new' ho0 (Kd.R_lt (by (with_reducible repeat (first | apply Kd.R_alloc | apply Kd.R_drewN | apply Kd.R_drew)); exact HO_6.out))) (Kd.R_lt (by (with_reducible repeat (first | apply Kd.R_alloc | apply Kd.R_drewN | apply Kd.R_drew)); exact HO414.out))) (Kd.R_lt (by (with_reducible repeat (first | apply Kd.R_alloc | apply Kd.R_drewN | apply Kd.R_drew)); exact HO417.out))) (below_size (by repeat (first | (with_reducible first | exact HB.out | apply wa | apply wn | apply wd | refine ws ?_ GE387.out) | exact HB.out)))); have n4_ := asd (blk_below (g := gb387) (o := .cells #[.int .i64 ((rd_T64 l0 x8_2).f0), .int .i64 ((rd_T64 l0 x8_2).f1), .int .i64 ((rd_T64 l0 x8_2).f2), .int .i64 ((rd_T64 l0 x8_2).f3)] 64 (0, 0)) (by (with_reducible repeat first | apply bn | apply bd | apply ba); exact BK387.out) hb); have n5_ := asd (below_step (by repeat (first | (with_reducible first | exact HB.out | apply wa | apply wn | apply wd | refine ws ?_ GE387.out) | exact HB.out)) hb); clear HO_6; clear HO414; clear HO417; clear BK387; clear HB; have HO_6 := n0_; have HO414 := n1_; have HO417 := n2_; have HO426 := n3_; have BK387 := n4_; have HB := n5_; clear n0_ n1_ n2_ n3_ n4_ n5_; (try clear hb); (try clear hb2); (try clear hk); (try clear hi); (try clear ho0); obtain ⟨Ao93, co93, eo93⟩ := Kd.R_slice HO426.out; subst eo93) | ((with_reducible refine gate_builtin (b := .append) (xs := #[.tmp 111, .tmp 114]) rfl ?_); at_builtin; refine Kd.R_append_rows (Kd.int .u8) (w0 := w) w.heap.size rfl (.tmp 111) (.tmp 114) 78 5 (.int .u8 0) 1 rfl Try.underlying78 info5 rfl (by decide) (by omega) v416 y415 t424 _ _ _ (fun k_ => some k_ ≠ (u6 : Value).ownBlock ∧ some k_ ≠ (.slice Ao89 t412.length co89 : Value).ownBlock ∧ some k_ ≠ (.slice Ao93 t424.length co93 : Value).ownBlock) (fun _ => False) rfl rfl ?aO ?aR (fun _ _ h => h) (fun _ h => h.elim) ?aF ?aB ?aS ?aL ?_; (case aR => repeat (first | exact (Kd.R_reads' HO426.out).2.2 | (with_reducible refine Kd.C_alloc ?_ _) | (with_reducible refine Kd.C_drewN ?_ _) | (with_reducible refine Kd.C_drew ?_))); (case aB => exact (by repeat (first | (with_reducible first | exact HB.out | apply wa | apply wn | apply wd | refine ws ?_ GE387.out) | exact HB.out))); (case aF => exact (fun k_ hk => ⟨Kd.fresh' (Kd.R_lt (by (with_reducible repeat (first | apply Kd.R_alloc | apply Kd.R_drewN | apply Kd.R_drew)); exact HO_6.out)) k_ hk, Kd.fresh' (Kd.R_lt (by (with_reducible repeat (first | apply Kd.R_alloc | apply Kd.R_drewN | apply Kd.R_drew)); exact HO414.out)) k_ hk, Kd.fresh' (Kd.R_lt (by (with_reducible repeat (first | apply Kd.R_alloc | apply Kd.R_drewN | apply Kd.R_drew)); exact HO426.out)) k_ hk⟩)); (case aO => exact (by (with_reducible repeat (first | apply Kd.R_alloc | apply Kd.R_drewN | apply Kd.R_drew)); exact Kd.R_mono HO417.out (fun _ hk => ⟨hk.1.1, ⟨hk.1.2, hk.2⟩⟩))); (case aS => exact (below_size (by repeat (first | (with_reducible first | exact HB.out | apply wa | apply wn | apply wd | refine ws ?_ GE387.out) | exact HB.out)))); (case aL => have := LMc83.out; omega); intro v428 w92 ho hb hg hat; rw [← Ny427.out] at ho; have n0_ := asd (Kd.R_after (ok := (fun k_ => some k_ ≠ (.slice Ao89 t412.length co89 : Value).ownBlock ∧ some k_ ≠ (.slice Ao93 t424.length co93 : Value).ownBlock)) (by (with_reducible repeat (first | apply Kd.R_alloc | apply Kd.R_drewN | apply Kd.R_drew)); exact Kd.R_mono HO_6.out (fun _ hk => ⟨⟨hk.1.1, hk.2⟩, hk.1.2⟩)) hg hat); have n1_ := asd (blk_grown (g := gb387) (o := .cells #[.int .i64 ((rd_T64 l0 x8_2).f0), .int .i64 ((rd_T64 l0 x8_2).f1), .int .i64 ((rd_T64 l0 x8_2).f2), .int .i64 ((rd_T64 l0 x8_2).f3)] 64 (0, 0)) (by (with_reducible repeat first | apply bn | apply bd | apply ba); exact BK387.out) hg (Kd.R_ne HO417.out BK387.out (by decide))); have n2_ := asd (Kd.R_after (ok := (fun k_ => some k_ ≠ (u6 : Value).ownBlock ∧ some k_ ≠ (.slice Ao93 t424.length co93 : Value).ownBlock)) (by (with_reducible repeat (first | apply Kd.R_alloc | apply Kd.R_drewN | apply Kd.R_drew)); exact Kd.R_mono HO414.out (fun _ hk => ⟨⟨hk.1.1, hk.2⟩, hk.1.2⟩)) hg hat); have n3_ := asd (Kd.R_after (ok := (fun k_ => some k_ ≠ (u6 : Value).ownBlock ∧ some k_ ≠ (.slice Ao89 t412.length co89 : Value).ownBlock)) (by (with_reducible repeat (first | apply Kd.R_alloc | apply Kd.R_drewN | apply Kd.R_drew)); exact Kd.R_mono HO426.out (fun _ hk => ⟨⟨hk.1.1.2, hk.1.2⟩, hk.2⟩)) hg hat); have n4_ := asd (hb); have n5_ := asd (ho); clear HO_6; clear BK387; clear HO414; clear HO426; clear HB; clear HO417; have HO_6 := n0_; have BK387 := n1_; have HO414 := n2_; have HO426 := n3_; have HB := n4_; have HO429 := n5_; clear n0_ n1_ n2_ n3_ n4_ n5_; clear ho hb hg hat) | ((with_reducible refine gate_builtin (b := .append) (xs := #[.tmp 116, .tmp 119]) rfl ?_); at_builtin; refine Kd.R_append (Kd.int .u8) (w0 := w) w.heap.size rfl (.tmp 116) (.tmp 119) 78 5 (.int .u8 0) 1 rfl Try.underlying78 info5 rfl (by decide) (by omega) u6 x6_2 ((x10_34) % 256) [.int .u8 ((x10_34) % 256)] (fun k_ => some k_ ≠ (.slice Ao89 t412.length co89 : Value).ownBlock ∧ some k_ ≠ (.slice Ao93 t424.length co93 : Value).ownBlock ∧ some k_ ≠ (v428 : Value).ownBlock) (fun _ => False) rfl rfl ?aP (fun _ hk => hk.elim) ?aF ?aO ?aB ?aS ?aL ?_; (case aP => exact rfl); (case aB => exact (by repeat (first | (with_reducible first | exact HB.out | apply wa | apply wn | apply wd | refine ws ?_ GE387.out) | exact HB.out))); (case aF => exact (fun k_ hk => ⟨Kd.fresh' (Kd.R_lt (by (with_reducible repeat (first | apply Kd.R_alloc | apply Kd.R_drewN | apply Kd.R_drew)); exact HO414.out)) k_ hk, Kd.fresh' (Kd.R_lt (by (with_reducible repeat (first | apply Kd.R_alloc | apply Kd.R_drewN | apply Kd.R_drew)); exact HO426.out)) k_ hk, Kd.fresh' (Kd.R_lt (by (with_reducible repeat (first | apply Kd.R_alloc | apply Kd.R_drewN | apply Kd.R_drew)); exact HO429.out)) k_ hk⟩)); (case aO => exact (by (with_reducible repeat (first | apply Kd.R_alloc | apply Kd.R_drewN | apply Kd.R_drew)); exact Kd.R_mono HO_6.out (fun _ hk => ⟨hk.1.1, ⟨hk.1.2, hk.2⟩⟩))); (case aS => exact (below_size (by repeat (first | (with_reducible first | exact HB.out | apply wa | apply wn | apply wd | refine ws ?_ GE387.out) | exact HB.out)))); (case aL => have := LMc84.out; omega); intro v431 w94 ho hb hg hat; rw [← Ny430.out] at ho; have n0_ := asd (blk_grown (g := gb387) (o := .cells #[.int .i64 ((rd_T64 l0 x8_2).f0), .int .i64 ((rd_T64 l0 x8_2).f1), .int .i64 ((rd_T64 l0 x8_2).f2), .int .i64 ((rd_T64 l0 x8_2).f3)] 64 (0, 0)) (by (with_reducible repeat first | apply bn | apply bd | apply ba); exact BK387.out) hg (Kd.R_ne HO_6.out BK387.out (by decide))); have n1_ := asd (Kd.R_after (ok := (fun k_ => some k_ ≠ (.slice Ao93 t424.length co93 : Value).ownBlock ∧ some k_ ≠ (v428 : Value).ownBlock)) (by (with_reducible repeat (first | apply Kd.R_alloc | apply Kd.R_drewN | apply Kd.R_drew)); exact Kd.R_mono HO414.out (fun _ hk => ⟨⟨hk.1.2, hk.2⟩, hk.1.1⟩)) hg hat); have n2_ := asd (Kd.R_after (ok := (fun k_ => some k_ ≠ (.slice Ao89 t412.length co89 : Value).ownBlock ∧ some k_ ≠ (v428 : Value).ownBlock)) (by (with_reducible repeat (first | apply Kd.R_alloc | apply Kd.R_drewN | apply Kd.R_drew)); exact Kd.R_mono HO426.out (fun _ hk => ⟨⟨hk.1.2, hk.2⟩, hk.1.1⟩)) hg hat); have n3_ := asd (Kd.R_after (ok := (fun k_ => some k_ ≠ (.slice Ao89 t412.length co89 : Value).ownBlock ∧ some k_ ≠ (.slice Ao93 t424.length co93 : Value).ownBlock)) (by (with_reducible repeat (first | apply Kd.R_alloc | apply Kd.R_drewN | apply Kd.R_drew)); exact Kd.R_mono HO429.out (fun _ hk => ⟨⟨hk.2.1, hk.2.2⟩, hk.1⟩)) hg hat); have n4_ := asd (hb); have n5_ := asd (ho); clear BK387; clear HO414; clear HO426; clear HO429; clear HB; clear HO_6; have BK387 := n0_; have HO414 := n1_; have HO426 := n2_; have HO429 := n3_; have HB := n4_; have HO432 := n5_; clear n0_ n1_ n2_ n3_ n4_ n5_; clear ho hb hg hat; obtain ⟨Ao96, co96, eo96⟩ := Kd.R_slice HO429.out; subst eo96) | ((with_reducible refine gate_builtin (b := .append) (xs := #[.tmp 120, .tmp 121]) rfl ?_); at_builtin; refine Kd.R_append_rows (Kd.int .u8) (w0 := w) w.heap.size rfl (.tmp 120) (.tmp 121) 78 5 (.int .u8 0) 1 rfl Try.underlying78 info5 rfl (by decide) (by omega) v431 y430 y427 _ _ _ (fun k_ => some k_ ≠ (.slice Ao89 t412.length co89 : Value).ownBlock ∧ some k_ ≠ (.slice Ao93 t424.length co93 : Value).ownBlock ∧ some k_ ≠ (.slice Ao96 y427.length co96 : Value).ownBlock) (fun _ => False) rfl rfl ?aO ?aR (fun _ _ h => h) (fun _ h => h.elim) ?aF ?aB ?aS ?aL ?_; (case aR => repeat (first | exact (Kd.R_reads' HO429.out).2.2 | (with_reducible refine Kd.C_alloc ?_ _) | (with_reducible refine Kd.C_drewN ?_ _) | (with_reducible refine Kd.C_drew ?_))); (case aB => exact (by repeat (first | (with_reducible first | exact HB.out | apply wa | apply wn | apply wd | refine ws ?_ GE387.out) | exact HB.out))); (case aF => exact (fun k_ hk => ⟨Kd.fresh' (Kd.R_lt (by (with_reducible repeat (first | apply Kd.R_alloc | apply Kd.R_drewN | apply Kd.R_drew)); exact HO414.out)) k_ hk, Kd.fresh' (Kd.R_lt (by (with_reducible repeat (first | apply Kd.R_alloc | apply Kd.R_drewN | apply Kd.R_drew)); exact HO426.out)) k_ hk, Kd.fresh' (Kd.R_lt (by (with_reducible repeat (first | apply Kd.R_alloc | apply Kd.R_drewN | apply Kd.R_drew)); exact HO429.out)) k_ hk⟩)); (case aO => exact (by (with_reducible repeat (first | apply Kd.R_alloc | apply Kd.R_drewN | apply Kd.R_drew)); exact HO432.out)); (case aS => exact (below_size (by repeat (first | (with_reducible first | exact HB.out | apply wa | apply wn | apply wd | refine ws ?_ GE387.out) | exact HB.out)))); (case aL => have := LMc85.out; omega); intro v434 w95 ho hb hg hat; rw [← Ny433.out] at ho; have n0_ := asd (blk_grown (g := gb387) (o := .cells #[.int .i64 ((rd_T64 l0 x8_2).f0), .int .i64 ((rd_T64 l0 x8_2).f1), .int .i64 ((rd_T64 l0 x8_2).f2), .int .i64 ((rd_T64 l0 x8_2).f3)] 64 (0, 0)) (by (with_reducible repeat first | apply bn | apply bd | apply ba); exact BK387.out) hg (Kd.R_ne HO432.out BK387.out (by decide))); have n1_ := asd (Kd.R_after (ok := (fun k_ => some k_ ≠ (.slice Ao93 t424.length co93 : Value).ownBlock ∧ some k_ ≠ (.slice Ao96 y427.length co96 : Value).ownBlock)) (by (with_reducible repeat (first | apply Kd.R_alloc | apply Kd.R_drewN | apply Kd.R_drew)); exact HO414.out) hg hat); have n2_ := asd (Kd.R_after (ok := (fun k_ => some k_ ≠ (.slice Ao89 t412.length co89 : Value).ownBlock ∧ some k_ ≠ (.slice Ao96 y427.length co96 : Value).ownBlock)) (by (with_reducible repeat (first | apply Kd.R_alloc | apply Kd.R_drewN | apply Kd.R_drew)); exact HO426.out) hg hat); have n3_ := asd (Kd.R_after (ok := (fun k_ => some k_ ≠ (.slice Ao89 t412.length co89 : Value).ownBlock ∧ some k_ ≠ (.slice Ao93 t424.length co93 : Value).ownBlock)) (by (with_reducible repeat (first | apply Kd.R_alloc | apply Kd.R_drewN | apply Kd.R_drew)); exact HO429.out) hg hat); have n4_ := asd (hb); have n5_ := asd (ho); clear BK387; clear HO414; clear HO426; clear HO429; clear HB; clear HO432; have BK387 := n0_; have HO414 := n1_; have HO426 := n2_; have HO429 := n3_; have HB := n4_; have HO435 := n5_; clear n0_ n1_ n2_ n3_ n4_ n5_; clear ho hb hg hat; have hcz97_0 : w95.cell? ⟨gb387, 0, none⟩ = some (.int .i64 ((rd_T64 l0 x8_2).f0)) := (blk_cell BK387.out 0).trans rfl; have hcz97_1 : w95.cell? ⟨gb387, 1, none⟩ = some (.int .i64 ((rd_T64 l0 x8_2).f1)) := (blk_cell BK387.out 1).trans rfl; have hcz97_2 : w95.cell? ⟨gb387, 2, none⟩ = some (.int .i64 ((rd_T64 l0 x8_2).f2)) := (blk_cell BK387.out 2).trans rfl; have hcz97_3 : w95.cell? ⟨gb387, 3, none⟩ = some (.int .i64 ((rd_T64 l0 x8_2).f3)) := (blk_cell BK387.out 3).trans rfl; have hfz97_0 := blk_frozen BK387.out 0; have hfz97_1 := blk_frozen BK387.out 1; have hfz97_2 := blk_frozen BK387.out 2; have hfz97_3 := blk_frozen BK387.out 3))
                 go_roundg kj34
                 case measure => have := HK1.out; have := HK2.out; have := HJ34.out; omega
                 case rel => exact ⟨(y433), (((rd_T64 l0 x8_2).f0)), (wrap64 (x8_2 + 1)), (by first | rfl | (simp; done) | (simp [*]; done)), (by first | rfl | (simp; done) | (simp [*]; done)), H', ⟨by have := HK1.out; have := HK2.out; have := HJ34.out; omega⟩, ⟨by (with_reducible repeat (first | apply Kd.R_alloc | apply Kd.R_drewN | apply Kd.R_drew)); exact Kd.R_mono HO435.out (fun _ hk => trivial)⟩, ⟨by repeat (first | (with_reducible first | exact HB.out | apply wa | apply wn | apply wd | refine ws ?_ GE387.out) | exact HB.out)⟩⟩
                ·rw [if_neg c85] at H
                 exact absurd H (by simp)
               ·rw [if_neg c84] at H
                exact absurd H (by simp)
              ·rw [if_neg c83] at H
               exact absurd H (by simp)
            ·rw [if_neg c69] at H
             exact absurd H (by simp)
        ·rw [if_neg c34] at H
         exact absurd H (by simp)
       ·rw [if_neg c33] at H
        have c33b0 : decide (x8_2 < (l0.length : Int)) = false := decide_eq_false c33
        clear c33
        replace H := Option.bind_eq_some_iff.mp H
        obtain ⟨t379, A980, H⟩ := H
        replace H : ((parcloseref02_Number.f k2 2 t379).bind fun t380 => (if x6_2.length + t380.length < 140737488355328 then (some ((x6_2 ++ t380), 0)) else (none))) = some (r1, r2) := H
        have A98 := asd A980
        clear A980
        replace H := Option.bind_eq_some_iff.mp H
        obtain ⟨t380, A990, H⟩ := H
        replace H : (if x6_2.length + t380.length < 140737488355328 then (some ((x6_2 ++ t380), 0)) else (none)) = some (r1, r2) := H
        have A99 := asd A990
        clear A990
        by_cases c100 : x6_2.length + t380.length < 140737488355328
        ·rw [if_pos c100] at H
         have LMc100 := asd c100
         clear c100
         obtain ⟨y383, hy383⟩ : ∃ y_ : List Int, y_ = (x6_2 ++ t380) := ⟨_, rfl⟩
         replace H : (some (y383, 0)) = some (r1, r2) := by first | (rw [hy383]; with_reducible exact H) | (have H2_ := (Option.bind_some _ _).symm.trans H; rw [hy383]; with_reducible exact H2_) | (have H2_ := (Option.bind_some _ _).symm.trans H; with_reducible exact H2_) | with_reducible exact H | (rw [hy383]; exact H) | exact H
         have Ny383 := asd hy383
         clear hy383
         simp only [Option.some.injEq, Prod.mk.injEq] at H
         obtain ⟨rfl, rfl⟩ := H
         obtain ⟨Ao101, co101, eo101⟩ := Kd.R_slice HO_6.out
         subst eo101
         go_wp2_with (first | ((with_reducible refine gate_callee (f := 60) rfl ?_); refine goesL_ (some 127) rfl rfl Try.func60 (by kernel_rfl) rfl #[.slice Ao101 x6_2.length co101] rfl (by (try simp only [List.map_toArray, List.map_cons, List.map_nil]); first | done | rfl | (simp only [List.length_drop, List.length_take]; rfl)) ?_; (with_reducible refine (parcloseref36_Sum.calls k2 _ _ x6_2 t379 _ ?side1 ?side2 A98.out).mono ?_); (case side1 => repeat (first | exact (Kd.R_reads' HO_6.out).2.2 | (with_reducible refine Kd.C_alloc ?_ _) | (with_reducible refine Kd.C_drewN ?_ _) | (with_reducible refine Kd.C_drew ?_))); (case side2 => exact (Kd.R_reads' HO_6.out).2.1); rintro e w' ⟨rfl, ⟨nd, rfl⟩⟩; refine ⟨_, rfl, ?_⟩) | ((with_reducible refine gate_callee (f := 93) rfl ?_); refine goesL_ (some 128) rfl rfl Try.func93 (by kernel_rfl) rfl #[.int .i64 2, .int .i64 t379] rfl (by (try simp only [List.map_toArray, List.map_cons, List.map_nil]); first | done | rfl | (simp only [List.length_drop, List.length_take]; rfl)) ?_; (with_reducible refine (parcloseref02_Number.calls k2 2 t379 t380 _ A99.out).mono ?_); rintro e w102 ⟨v381, rfl, ho0, hb⟩; refine ⟨_, rfl, ?_⟩; have n0_ := asd (Kd.R_elder' (by (with_reducible repeat (first | apply Kd.R_alloc | apply Kd.R_drewN | apply Kd.R_drew)); exact HO_6.out) (Kd.R_base ho0) hb); have n1_ := asd (Kd.R_lower (Kd.R_new' ho0 (Kd.R_lt (by (with_reducible repeat (first | apply Kd.R_alloc | apply Kd.R_drewN | apply Kd.R_drew)); exact HO_6.out))) (below_size (by repeat (first | (with_reducible first | exact HB.out | apply wa | apply wn | apply wd) | exact HB.out)))); have n2_ := asd (below_step (by repeat (first | (with_reducible first | exact HB.out | apply wa | apply wn | apply wd) | exact HB.out)) hb); clear HO_6; clear HB; have HO_6 := n0_; have HO382 := n1_; have HB := n2_; clear n0_ n1_ n2_; (try clear hb); (try clear hb2); (try clear hk); (try clear hi); (try clear ho0); obtain ⟨Ao104, co104, eo104⟩ := Kd.R_slice HO382.out; subst eo104) | ((with_reducible refine gate_builtin (b := .append) (xs := #[.tmp 125, .tmp 128]) rfl ?_); at_builtin; refine Kd.R_append_rows (Kd.int .u8) (w0 := w) w.heap.size rfl (.tmp 125) (.tmp 128) 78 5 (.int .u8 0) 1 rfl Try.underlying78 info5 rfl (by decide) (by omega) (.slice Ao101 x6_2.length co101) x6_2 t380 _ _ _ (fun k_ => some k_ ≠ (.slice Ao104 t380.length co104 : Value).ownBlock) (fun _ => False) rfl rfl ?aO ?aR (fun _ _ h => h) (fun _ h => h.elim) ?aF ?aB ?aS ?aL ?_; (case aR => repeat (first | exact (Kd.R_reads' HO382.out).2.2 | (with_reducible refine Kd.C_alloc ?_ _) | (with_reducible refine Kd.C_drewN ?_ _) | (with_reducible refine Kd.C_drew ?_))); (case aB => exact (by repeat (first | (with_reducible first | exact HB.out | apply wa | apply wn | apply wd) | exact HB.out))); (case aF => exact (fun k_ hk => Kd.fresh' (Kd.R_lt (by (with_reducible repeat (first | apply Kd.R_alloc | apply Kd.R_drewN | apply Kd.R_drew)); exact HO382.out)) k_ hk)); (case aO => exact (by (with_reducible repeat (first | apply Kd.R_alloc | apply Kd.R_drewN | apply Kd.R_drew)); exact Kd.R_mono HO_6.out (fun _ hk => hk.2))); (case aS => exact (below_size (by repeat (first | (with_reducible first | exact HB.out | apply wa | apply wn | apply wd) | exact HB.out)))); (case aL => have := LMc100.out; omega); intro v384 w103 ho hb hg hat; rw [← Ny383.out] at ho; have n0_ := asd (Kd.R_after (ok := (fun _ => True)) (by (with_reducible repeat (first | apply Kd.R_alloc | apply Kd.R_drewN | apply Kd.R_drew)); exact HO382.out) hg hat); have n1_ := asd (hb); have n2_ := asd (ho); clear HO382; clear HB; clear HO_6; have HO382 := n0_; have HB := n1_; have HO385 := n2_; clear n0_ n1_ n2_; clear ho hb hg hat))
         go_ret2
         exact ⟨_, by first | rfl | (simp [*] <;> rfl), by (with_reducible repeat (first | apply Kd.R_alloc | apply Kd.R_drewN | apply Kd.R_drew)); exact Kd.R_mono HO385.out (fun _ hk => trivial), by repeat (first | (with_reducible first | exact HB.out | apply wa | apply wn | apply wd) | exact HB.out)⟩
        ·rw [if_neg c100] at H
         exact absurd H (by simp)
end Go.Proofs.Ytalimpniimgheaa.Fn
namespace Go.Proofs.Ytalimpniimgheaa.Fn
open Go.RowKit Go.Proofs.YtalimpniimgheaaW.PrintWords Go.Proofs.YtalimpniimgheaaW.PrintLast Go.Proofs.YtalimpniimgheaaW.PrintMore
attribute [local go_sem] max2_int min2_int max_two min_two max_three min_three max_four min_four
set_option linter.unusedVariables false
set_option linter.unusedSimpArgs false
def parcloselaw36_owns.l0 : Nat → List (S64) → List (S65) → Int → Option ((List (S65)))
 | 0, _, _, _ => none
 | k + 1, x0, x3, x4 => if x4 < (x0.length : Int) then (if 0 ≤ x4 then (if x3.length < 4398046511104 then (parcloselaw36_owns.l0 k x0 (x3 ++ [(⟨(rd_T64 x0 x4).f0, (rd_T64 x0 x4).f1, (rd_T64 x0 x4).f2, (rd_T64 x0 x4).f3⟩ : S65)]) (wrap64 (x4 + 1))) else (none)) else (none)) else (some x3)
def parcloselaw36_owns.f (k : Nat) (l0 : List (S64)) : Option ((List (S65))) := parcloselaw36_owns.l0 k l0 ([] : List (S65)) 0
set_option maxHeartbeats 8000000 in
set_option maxRecDepth 100000 in
theorem parcloselaw36_owns.calls (k : Nat) (A0 : Option Addr) (c0 : Nat) (l0 : List (S64)) (r : List (S65)) (w : World) (hr0 : Kd.C k64 w A0 l0.length l0) (hc0 : l0.length ≤ c0) (h : parcloselaw36_owns.f k l0 = some r) :
  Calls Try.prog 54 #[.slice A0 l0.length c0] w fun e w' => ∃ v0_ : Value, e = .returned (v0_) ∧ Kd.R k65 65 w' w.heap.size (fun _ => True) v0_ r ∧ Below w.heap.size w w' := by
 have hu64 := Try.underlying64
 have HR0 := asd hr0
 have HC0 := asd hc0
 clear hr0 hc0
 have HB := asd (Below.refl w.heap.size w)
 have H : (parcloselaw36_owns.l0 k l0 ([] : List (S65)) 0) = some r := h
 clear h
 have H' := asd H
 clear H
 go_enter Try.func54, Try.ntmps54
 go_wp2
 go_loopg [3, 4] k (fun kq v3 v4 w' => ∃ (x3_1 : List (S65)) (x4_1 : Int), v4 = .int .i64 x4_1 ∧ Aside0 (parcloselaw36_owns.l0 kq l0 x3_1 x4_1 = some r) ∧ Aside0 (kq ≤ k) ∧ Aside0 (Kd.R k65 65 w' w.heap.size (fun _ => True) v3 x3_1) ∧ Aside0 (Below w.heap.size w w'))
 case atStart => exact ⟨(([] : List (S65))), (0), (by first | rfl | (simp; done) | (simp [*]; done)), H', ⟨Nat.le_refl _⟩, ⟨by first | exact Kd.R_nil _ _ _ _ _ | exact Kd.N_nil _ _ _ _ _ | exact Kd.V_nil _ _ _ _ _ | exact Kd.Q_nil _ _ _ _ _ | exact Kd.S_nil _ _ _ _ _⟩, ⟨by repeat (first | (with_reducible first | exact HB.out | apply wa | apply wn | apply wd) | exact HB.out)⟩⟩
 case round =>
  clear H'
  obtain ⟨x3_1, x4_1, rfl, HA, HK1, HO_3, HB⟩ := hrel
  cases gk with
  | zero => exact absurd HA.out (by simp [parcloselaw36_owns.l0])
  | succ k1 =>
   have H := HA.out
   clear HA
   simp only [parcloselaw36_owns.l0] at H
   by_cases c2 : x4_1 < (l0.length : Int)
   ·rw [if_pos c2] at H
    have c2b0 : decide (x4_1 < (l0.length : Int)) = true := decide_eq_true c2
    clear c2
    by_cases c3 : 0 ≤ x4_1
    ·rw [if_pos c3] at H
     have c3b0 : decide (0 ≤ x4_1) = true := decide_eq_true c3
     clear c3
     by_cases c4 : x3_1.length < 4398046511104
     ·rw [if_pos c4] at H
      have LMc4 := asd c4
      clear c4
      obtain ⟨y366, hy366⟩ : ∃ y_ : List (S65), y_ = (x3_1 ++ [(⟨(rd_T64 l0 x4_1).f0, (rd_T64 l0 x4_1).f1, (rd_T64 l0 x4_1).f2, (rd_T64 l0 x4_1).f3⟩ : S65)]) := ⟨_, rfl⟩
      replace H : (parcloselaw36_owns.l0 k1 l0 y366 (wrap64 (x4_1 + 1))) = some r := by first | (rw [hy366]; with_reducible exact H) | (have H2_ := (Option.bind_some _ _).symm.trans H; rw [hy366]; with_reducible exact H2_) | (have H2_ := (Option.bind_some _ _).symm.trans H; with_reducible exact H2_) | with_reducible exact H | (rw [hy366]; exact H) | exact H
      have Ny366 := asd hy366
      clear hy366
      have H' := asd H
      clear H
      have p365 : 0 ≤ (x4_1 : Int) := of_decide_eq_true (by assumption)
      have q365 : x4_1 < (l0.length : Int) := of_decide_eq_true (by assumption)
      obtain ⟨ad365, e365, hx365_0, hx365_1, hx365_2, hx365_3⟩ := at_T64 HR0.out x4_1 p365 q365
      cases e365
      replace hx365_0 := (HB.out.cell (World.block_lt_of_cell? w _ hx365_0)).trans hx365_0
      replace hx365_1 := (HB.out.cell (World.block_lt_of_cell? w _ hx365_1)).trans hx365_1
      replace hx365_2 := (HB.out.cell (World.block_lt_of_cell? w _ hx365_2)).trans hx365_2
      replace hx365_3 := (HB.out.cell (World.block_lt_of_cell? w _ hx365_3)).trans hx365_3
      replace p365 := eq_true p365
      replace q365 := eq_true q365
      go_wp2_with (first | ((with_reducible refine gate_builtin (b := .append) (xs := #[.tmp 11, .tmp 16]) rfl ?_); at_builtin; refine Kd.R_append k65 (w0 := w) w.heap.size rfl (.tmp 11) (.tmp 16) 31 65 (.agg #[(.int .i64 0), (.int .i64 0), (.int .i64 0), (.int .i64 0)]) 32 rfl Try.underlying31 info65 rfl (by decide) (by omega) u3 x3_1 (⟨(rd_T64 l0 x4_1).f0, (rd_T64 l0 x4_1).f1, (rd_T64 l0 x4_1).f2, (rd_T64 l0 x4_1).f3⟩ : S65) [.int .i64 ((rd_T64 l0 x4_1).f0), .int .i64 ((rd_T64 l0 x4_1).f1), .int .i64 ((rd_T64 l0 x4_1).f2), .int .i64 ((rd_T64 l0 x4_1).f3)] (fun _ => True) (fun _ => False) rfl rfl ?aP (fun _ hk => hk.elim) ?aF ?aO ?aB ?aS ?aL ?_; (case aP => exact k65_mkM _ _ _ (⟨(rd_T64 l0 x4_1).f0, (rd_T64 l0 x4_1).f1, (rd_T64 l0 x4_1).f2, (rd_T64 l0 x4_1).f3⟩ : S65)); (case aB => exact (by repeat (first | (with_reducible first | exact HB.out | apply wa | apply wn | apply wd) | exact HB.out))); (case aF => exact (fun _ _ => trivial)); (case aO => exact (by (with_reducible repeat (first | apply Kd.R_alloc | apply Kd.R_drewN | apply Kd.R_drew)); exact HO_3.out)); (case aS => exact (below_size (by repeat (first | (with_reducible first | exact HB.out | apply wa | apply wn | apply wd) | exact HB.out)))); (case aL => have := LMc4.out; omega); intro v367 w5 ho hb hg hat; rw [← Ny366.out] at ho; have n0_ := asd (hb); have n1_ := asd (ho); clear HB; clear HO_3; have HB := n0_; have HO368 := n1_; clear n0_ n1_; clear ho hb hg hat))
      go_roundg k1
      case measure => have := HK1.out; omega
      case rel => exact ⟨(y366), (wrap64 (x4_1 + 1)), (by first | rfl | (simp; done) | (simp [*]; done)), H', ⟨by have := HK1.out; omega⟩, ⟨by (with_reducible repeat (first | apply Kd.R_alloc | apply Kd.R_drewN | apply Kd.R_drew)); exact HO368.out⟩, ⟨by repeat (first | (with_reducible first | exact HB.out | apply wa | apply wn | apply wd) | exact HB.out)⟩⟩
     ·rw [if_neg c4] at H
      exact absurd H (by simp)
    ·rw [if_neg c3] at H
     exact absurd H (by simp)
   ·rw [if_neg c2] at H
    have c2b0 : decide (x4_1 < (l0.length : Int)) = false := decide_eq_false c2
    clear c2
    obtain rfl := Option.some.inj H
    go_wp2
    go_ret
    exact ⟨_, by first | rfl | (simp [*] <;> rfl), by (with_reducible repeat (first | apply Kd.R_alloc | apply Kd.R_drewN | apply Kd.R_drew)); exact HO_3.out, by repeat (first | (with_reducible first | exact HB.out | apply wa | apply wn | apply wd) | exact HB.out)⟩
end Go.Proofs.Ytalimpniimgheaa.Fn
namespace Go.Proofs.Ytalimpniimgheaa.Fn
open Go.RowKit Go.Proofs.YtalimpniimgheaaW.PrintWords Go.Proofs.YtalimpniimgheaaW.PrintLast Go.Proofs.YtalimpniimgheaaW.PrintMore
set_option linter.unusedVariables false
set_option linter.unusedSimpArgs false
def eP (x : S64) : S65 := ⟨x.f0, x.f1, x.f2, x.f3⟩
theorem pk_rd64 (xs : List S64) (i : Nat) : rd_T64 xs (i : Int) = xs.getD i z64 := by unfold rd_T64; rw [Int.toNat_natCast]
theorem numB1 (h : Int) : numB 1 h = [h % 256] := by show [h / 256 ^ 0 % 256] = _; rw [Int.pow_zero, Int.ediv_one]
theorem num7 (n : Int) (h : 0 ≤ n ∧ n < 72057594037927936) : ∃ k, parcloseref02_Number.f k 7 n = some (numB 7 n) := number_ev n 7 h.1 (by omega) (by omega)
theorem num_up {n : Int} {k1 : Nat} {s : Int} {r : List Int} (h : parcloseref02_Number.f k1 s n = some r) (k2 : Nat) (hk : k1 ≤ k2) : parcloseref02_Number.f k2 s n = some r := at_rounds (g := fun k => parcloseref02_Number.f k s n) (fun k => parcloseref02_Number.mono _ _ k) hk h
theorem l1_up {l : List S64} {b : List Int} {t i : Int} {r : List Int × Int} {k1 : Nat} (h : parcloseref36_Put.l1 k1 l b t i = some r) (k2 : Nat) (hk : k1 ≤ k2) : parcloseref36_Put.l1 k2 l b t i = some r := at_rounds (g := fun k => parcloseref36_Put.l1 k l b t i) (fun k => (parcloseref36_Put.mono_l k).2.1 _ _ _ _) hk h
theorem j2_up {l : List S64} {b rr : List Int} {i h t kd a bb : Int} {r : List Int × Int} {k1 : Nat} (hh : parcloseref36_Put.j2 k1 l b i h rr t kd a bb = some r) (k2 : Nat) (hk : k1 ≤ k2) : parcloseref36_Put.j2 k2 l b i h rr t kd a bb = some r := at_rounds (g := fun k => parcloseref36_Put.j2 k l b i h rr t kd a bb) (fun k => (parcloseref36_Put.mono_l k).2.2 _ _ _ _ _ _ _ _ _) hk hh
theorem bodyP_bytes0 (l : List S65) : ∀ last, Bytes (bodyP last l) := by
 induction l with
 | nil => intro last c hc; simp [bodyP] at hc
 | cons x l ih =>
  intro last c hc
  rcases List.mem_append.1 hc with h | h
  ·rcases List.mem_append.1 h with h | h
   ·exact numB_bytes _ _ c h
   ·obtain ⟨b, hb, hcb⟩ := List.mem_flatten.1 h
    obtain ⟨n, _, rfl⟩ := List.mem_map.1 hb
    exact numB_bytes _ _ c hcb
  ·exact ih _ c h
theorem allP_bytes0 (l : List S65) : Bytes (allP l) := by
 intro c hc
 rcases List.mem_append.1 hc with h | h
 ·exact numB_bytes _ _ c h
 ·exact bodyP_bytes0 l 0 c h
theorem flat7 (xs : List Int) (x : Int) : ((xs ++ restN x).map (numB 7)).flatten = (xs.map (numB 7)).flatten ++ ((restN x).map (numB 7)).flatten := by rw [List.map_append, List.flatten_append]
theorem rj2 (l : List S64) (b : List Int) (i : Nat) (hd : Int) (rs : List Int) (t kd a bb : Int) (hdb : 0 ≤ hd ∧ hd < 208) (ha : 0 ≤ a ∧ a < 72057594037927936) (hbb : 0 ≤ bb ∧ bb < 72057594037927936) (hb : b.length ≤ 1000000) (hr : rs.length ≤ 100) (hi : i ≤ 100000) (r : List Int × Int) (k0 : Nat)
  (hn : parcloseref36_Put.l1 k0 l (b ++ (numB 1 (hd + (if a = 0 then 16 else 0) + (if bb = 0 then 32 else 0)) ++ (rs ++ ((restN a).map (numB 7)).flatten ++ ((restN bb).map (numB 7)).flatten))) t ((i + 1 : Nat) : Int) = some r) :
  ∃ k, parcloseref36_Put.j2 k l b (i : Int) hd rs t kd a bb = some r := by
 obtain ⟨k1, h1⟩ := num7 a ha
 obtain ⟨k2, h2⟩ := num7 bb hbb
 have h1' := num_up h1 (k0 + k1 + k2) (by omega)
 have h2' := num_up h2 (k0 + k1 + k2) (by omega)
 have hn' := l1_up hn (k0 + k1 + k2) (by omega)
 refine ⟨k0 + k1 + k2 + 1, ?_⟩
 unfold parcloseref36_Put.j2
 by_cases a0 : a = 0
 ·by_cases b0 : bb = 0
  ·rw [if_pos a0, if_pos b0, if_pos (by omega)]
   (try simp only [Option.bind_some])
   rw [if_pos (by rw [List.length_append]; simp only [List.length_singleton]; omega), pk_w64 i (by omega)]
   have e1 : wrap64 (wrap64 (hd + 16) + 32) = hd + 16 + 32 := by unfold wrap64; omega
   rw [e1]
   rw [if_pos a0, if_pos b0, numB1, a0, b0] at hn'
   simp only [restN, if_true, List.map_nil, List.flatten_nil, List.append_nil] at hn'
   rw [List.append_assoc]
   exact hn'
  ·rw [if_pos a0, if_neg b0, h2']
   (try simp only [Option.bind_some])
   rw [if_pos (by rw [numB_len]; omega)]
   (try simp only [Option.bind_some])
   rw [if_pos (by omega)]
   (try simp only [Option.bind_some])
   rw [if_pos (by simp only [List.length_append, List.length_singleton, numB_len]; omega), pk_w64 i (by omega)]
   have e1 : wrap64 (hd + 16) = hd + 16 := by unfold wrap64; omega
   rw [e1]
   rw [if_pos a0, if_neg b0, numB1, a0, Int.add_zero] at hn'
   simp only [restN, if_true, if_neg b0, List.map_nil, List.map_cons, List.flatten_nil, List.flatten_cons, List.append_nil] at hn'
   rw [List.append_assoc]
   exact hn'
 ·by_cases b0 : bb = 0
  ·rw [if_neg a0, h1']
   (try simp only [Option.bind_some])
   rw [if_pos (by rw [numB_len]; omega)]
   (try simp only [Option.bind_some])
   rw [if_pos b0, if_pos (by omega)]
   (try simp only [Option.bind_some])
   rw [if_pos (by simp only [List.length_append, List.length_singleton, numB_len]; omega), pk_w64 i (by omega)]
   have e1 : wrap64 (hd + 32) = hd + 32 := by unfold wrap64; omega
   rw [e1]
   rw [if_neg a0, if_pos b0, numB1, b0, Int.add_zero] at hn'
   simp only [restN, if_true, if_neg a0, List.map_nil, List.map_cons, List.flatten_nil, List.flatten_cons, List.append_nil] at hn'
   rw [List.append_assoc]
   exact hn'
  ·rw [if_neg a0, h1']
   (try simp only [Option.bind_some])
   rw [if_pos (by rw [numB_len]; omega)]
   (try simp only [Option.bind_some])
   rw [if_neg b0, h2']
   (try simp only [Option.bind_some])
   rw [if_pos (by simp only [List.length_append, numB_len]; omega)]
   (try simp only [Option.bind_some])
   rw [if_pos (by omega)]
   (try simp only [Option.bind_some])
   rw [if_pos (by simp only [List.length_append, List.length_singleton, numB_len]; omega), pk_w64 i (by omega)]
   rw [if_neg a0, if_neg b0, numB1, Int.add_zero, Int.add_zero] at hn'
   simp only [restN, if_neg a0, if_neg b0, List.map_nil, List.map_cons, List.flatten_nil, List.flatten_cons, List.append_nil] at hn'
   rw [List.append_assoc]
   exact hn'
theorem rl1_go (l : List S64) (hl : l.length ≤ 4000) (hok : ∀ x, x ∈ l.map eP → OkP x) : ∀ m (i : Nat), l.length - i = m → i ≤ l.length → ∃ k, parcloseref36_Put.l1 k l (numB 4 (l.length : Int) ++ bodyP 0 ((l.take i).map eP)) (lastP 0 ((l.take i).map eP)) (i : Int) = some (allP (l.map eP) ++ numB 2 (sumP (allP (l.map eP))), 0) := by
 intro m
 induction m with
 | zero =>
  intro i hm hi
  have e0 : (l.take i).map eP = l.map eP := by rw [List.take_of_length_le (by omega)]
  have e1 : numB 4 (l.length : Int) ++ bodyP 0 (l.map eP) = allP (l.map eP) := by unfold allP; rw [List.length_map]
  have hall := allP_len (l.map eP)
  rw [List.length_map] at hall
  obtain ⟨k1, h1⟩ := rsum_ev (allP (l.map eP)) (allP_bytes0 _) (by omega)
  obtain ⟨k2, h2⟩ := number_ev (sumP (allP (l.map eP))) 2 (sumP_bd _).1 (by have := (sumP_bd (allP (l.map eP))).2; omega) (by omega)
  have h1' := at_rounds (g := fun k => parcloseref36_Sum.f k (allP (l.map eP))) (fun k => parcloseref36_Sum.mono _ k) (Nat.le_add_right k1 k2) h1
  have h2' := num_up h2 (k1 + k2) (by omega)
  refine ⟨k1 + k2 + 1, ?_⟩
  unfold parcloseref36_Put.l1
  rw [e0, e1, if_neg (by omega)]
  rw [show parcloseref36_Sum.f (k1 + k2) (allP (l.map eP)) = _ from h1']
  (try simp only [Option.bind_some])
  rw [show parcloseref02_Number.f (k1 + k2) 2 (sumP (allP (l.map eP))) = _ from h2']
  (try simp only [Option.bind_some])
  rw [if_pos (by rw [numB_len]; omega)]
 | succ m ih =>
  intro i hm hi
  have hi2 : i < l.length := by omega
  obtain ⟨k0, hk0⟩ := ih (i + 1) (by omega) (by omega)
  have hx : OkP (eP (l.getD i z64)) := hok _ (List.mem_map.2 ⟨_, by rw [getD_lt l z64 hi2]; exact List.getElem_mem _, rfl⟩)
  have hsn : (l.take (i + 1)).map eP = (l.take i).map eP ++ [eP (l.getD i z64)] := by rw [List.take_succ_eq_append_getElem hi2, List.map_append, getD_lt l z64 hi2]; rfl
  rw [hsn, bodyP_snoc, lastP_snoc] at hk0
  have hlb := lastP_bd (last := 0) (l := (l.take i).map eP) (by omega) (by omega) (fun x hx => hok x (by rw [List.map_take] at hx; exact List.mem_of_mem_take hx))
  have hbl : (numB 4 (l.length : Int) ++ bodyP 0 ((l.take i).map eP)).length ≤ 1000000 := by
   have := bodyP_len ((l.take i).map eP) 0
   rw [List.length_map, List.length_take] at this
   rw [List.length_append, numB_len]; omega
  generalize lastP 0 ((l.take i).map eP) = last at hk0 hlb ⊢
  generalize hxe : l.getD i z64 = x at hk0 hx ⊢
  obtain ⟨⟨q0, q1⟩, ⟨q2, q3⟩, q4, q5⟩ := hx
  have g0 : (eP x).f0 = x.f0 := rfl
  have g1 : (eP x).f1 = x.f1 := rfl
  have g2 : (eP x).f2 = x.f2 := rfl
  have g3 : (eP x).f3 = x.f3 := rfl
  rw [g0] at q2 q3
  rw [g1] at q0 q1
  rw [g2] at q4
  rw [g3] at q5
  have ent : entP last (eP x) = numB 1 (x.f1 + headT last x.f0 + (if x.f2 = 0 then 16 else 0) + (if x.f3 = 0 then 32 else 0)) ++ (((restT last x.f0).map (numB 7)).flatten ++ ((restN x.f2).map (numB 7)).flatten ++ ((restN x.f3).map (numB 7)).flatten) := by
   unfold entP restP
   rw [flat7, flat7]; rfl
  rw [← List.append_assoc, ent, g0] at hk0
  by_cases t0 : x.f0 = last
  ·have hT : headT last x.f0 = 64 := by unfold headT; rw [if_pos t0]
   have rT : restT last x.f0 = [] := by unfold restT; rw [if_pos t0]
   rw [hT, rT] at hk0
   obtain ⟨k, hk⟩ := rj2 l (numB 4 (l.length : Int) ++ bodyP 0 ((l.take i).map eP)) i (x.f1 + 64) [] x.f0 x.f1 x.f2 x.f3 (by omega) q4 q5 hbl (by simp) (by omega) _ k0 hk0
   refine ⟨k + 1, ?_⟩
   unfold parcloseref36_Put.l1
   rw [if_pos (by omega), if_pos (by omega), pk_rd64, hxe, if_pos t0, show wrap64 (x.f1 + 64) = x.f1 + 64 by unfold wrap64; omega]
   exact hk
  ·by_cases t1 : x.f0 = last + 1
   ·have hT : headT last x.f0 = 128 := by unfold headT; rw [if_neg t0, if_pos t1]
    have rT : restT last x.f0 = [] := by unfold restT; rw [if_neg t0, if_pos t1]
    rw [hT, rT] at hk0
    obtain ⟨k, hk⟩ := rj2 l (numB 4 (l.length : Int) ++ bodyP 0 ((l.take i).map eP)) i (x.f1 + 128) [] x.f0 x.f1 x.f2 x.f3 (by omega) q4 q5 hbl (by simp) (by omega) _ k0 hk0
    refine ⟨k + 1, ?_⟩
    unfold parcloseref36_Put.l1
    rw [if_pos (by omega), if_pos (by omega), pk_rd64, hxe, if_neg t0, show wrap64 (last + 1) = last + 1 by unfold wrap64; omega, if_pos t1, show wrap64 (x.f1 + 128) = x.f1 + 128 by unfold wrap64; omega]
    exact hk
   ·have hT : headT last x.f0 = 0 := by unfold headT; rw [if_neg t0, if_neg t1]
    have rT : restT last x.f0 = [x.f0] := by unfold restT; rw [if_neg t0, if_neg t1]
    rw [hT, rT, Int.add_zero] at hk0
    obtain ⟨k, hk⟩ := rj2 l (numB 4 (l.length : Int) ++ bodyP 0 ((l.take i).map eP)) i x.f1 (numB 7 x.f0) x.f0 x.f1 x.f2 x.f3 (by omega) q4 q5 hbl (by rw [numB_len]; omega) (by omega) _ k0 (by simpa using hk0)
    obtain ⟨k7, h7⟩ := num7 x.f0 ⟨q2, q3⟩
    refine ⟨k7 + k + 1, ?_⟩
    unfold parcloseref36_Put.l1
    rw [if_pos (by omega), if_pos (by omega), pk_rd64, hxe, if_neg t0, show wrap64 (last + 1) = last + 1 by unfold wrap64; omega, if_neg t1, num_up h7 (k7 + k) (by omega)]
    (try simp only [Option.bind_some])
    rw [if_pos (by rw [numB_len]; simp), List.nil_append]
    exact j2_up hk (k7 + k) (by omega)
theorem rl0_go (l : List S64) (hl : l.length ≤ 4000) : ∀ m (i : Nat), l.length - i = m → i ≤ l.length → (∀ j, j < i → OkP ((l.map eP).getD j z65)) → ∃ k, parcloseref36_Put.l0 k l (i : Int) = some (putP (l.map eP)) := by
 intro m
 induction m with
 | zero =>
  intro i hm hi h
  have hok : ∀ x, x ∈ l.map eP → OkP x := (all_getD _ _ z65).1 (fun j hj => h j (by rw [List.length_map] at hj; omega))
  have e1 : putP (l.map eP) = (allP (l.map eP) ++ numB 2 (sumP (allP (l.map eP))), 0) := by unfold putP; rw [if_pos hok, if_pos (by rw [List.length_map]; omega)]
  obtain ⟨k0, h0⟩ := rl1_go l hl hok _ 0 rfl (Nat.zero_le _)
  obtain ⟨k1, h1⟩ := number_ev (l.length : Int) 4 (by omega) (by omega) (by omega)
  refine ⟨k0 + k1 + 1, ?_⟩
  rw [e1]
  unfold parcloseref36_Put.l0
  rw [if_neg (by omega), if_neg (by omega), show parcloseref02_Number.f (k0 + k1) 4 (l.length : Int) = _ from num_up h1 (k0 + k1) (by omega)]
  (try simp only [Option.bind_some])
  have h2 : parcloseref36_Put.l1 k0 l (numB 4 (l.length : Int)) 0 0 = some (allP (l.map eP) ++ numB 2 (sumP (allP (l.map eP))), 0) := by simpa [bodyP, lastP] using h0
  exact l1_up h2 (k0 + k1) (by omega)
 | succ m ih =>
  intro i hm hi h
  have hi2 : i < l.length := by omega
  have eg : (l.map eP).getD i z65 = eP (l.getD i z64) := by simp [List.getD_eq_getElem?_getD, List.getElem?_eq_getElem hi2]
  by_cases hx : OkP (eP (l.getD i z64))
  ·obtain ⟨k, hk⟩ := ih (i + 1) (by omega) (by omega) (fun j hj => by
    by_cases e : j = i
    ·subst e; rw [eg]; exact hx
    ·exact h j (by omega))
   refine ⟨k + 1, ?_⟩
   obtain ⟨⟨q0, q1⟩, ⟨q2, q3⟩, ⟨q4, q5⟩, q6, q7⟩ := hx
   have g0 : (eP (l.getD i z64)).f0 = (l.getD i z64).f0 := rfl
   have g1 : (eP (l.getD i z64)).f1 = (l.getD i z64).f1 := rfl
   have g2 : (eP (l.getD i z64)).f2 = (l.getD i z64).f2 := rfl
   have g3 : (eP (l.getD i z64)).f3 = (l.getD i z64).f3 := rfl
   unfold parcloseref36_Put.l0
   rw [if_pos (by omega), if_pos (by omega), pk_rd64, if_neg (by omega), if_neg (by omega), if_neg (by omega), if_neg (by omega), if_neg (by omega), if_neg (by omega), if_neg (by omega), if_neg (by omega), pk_w64 i (by omega)]
   exact hk
  ·refine ⟨1, ?_⟩
   have e1 : putP (l.map eP) = ([], 2) := by
    unfold putP
    rw [if_neg (fun q => hx (by
     have h2 := (all_getD _ _ z65).2 q i (by rw [List.length_map]; exact hi2)
     rw [eg] at h2; exact h2))]
   rw [e1]
   have hx2 : ¬ ((0 ≤ (l.getD i z64).f1 ∧ (l.getD i z64).f1 < 16) ∧ (0 ≤ (l.getD i z64).f0 ∧ (l.getD i z64).f0 < 72057594037927936) ∧ (0 ≤ (l.getD i z64).f2 ∧ (l.getD i z64).f2 < 72057594037927936) ∧ (0 ≤ (l.getD i z64).f3 ∧ (l.getD i z64).f3 < 72057594037927936)) := hx
   unfold parcloseref36_Put.l0
   rw [if_pos (by omega), if_pos (by omega), pk_rd64]
   generalize l.getD i z64 = x at hx2 ⊢
   by_cases c0 : x.f1 < 0
   ·rw [if_pos c0]
   rw [if_neg c0]
   by_cases c1 : x.f1 > 15
   ·rw [if_pos c1]
   rw [if_neg c1]
   by_cases c2 : x.f0 < 0
   ·rw [if_pos c2]
   rw [if_neg c2]
   by_cases c3 : x.f0 ≥ 72057594037927936
   ·rw [if_pos c3]
   rw [if_neg c3]
   by_cases c4 : x.f2 < 0
   ·rw [if_pos c4]
   rw [if_neg c4]
   by_cases c5 : x.f2 ≥ 72057594037927936
   ·rw [if_pos c5]
   rw [if_neg c5]
   by_cases c6 : x.f3 < 0
   ·rw [if_pos c6]
   rw [if_neg c6]
   by_cases c7 : x.f3 ≥ 72057594037927936
   ·rw [if_pos c7]
   omega
theorem rput_ev (l : List S64) (hl : l.length ≤ 4000) : ∃ k, parcloseref36_Put.f k l = some (putP (l.map eP)) := rl0_go l hl _ 0 rfl (Nat.zero_le _) (fun j hj => absurd hj (by omega))
theorem powns_go (l : List S64) (hl : l.length ≤ 100000) : ∀ n (i : Nat), l.length - i = n → i ≤ l.length → ∃ k, parcloselaw36_owns.l0 k l ((l.take i).map eP) (i : Int) = some (l.map eP) := by
 intro n
 induction n with
 | zero =>
  intro i hn hi
  refine ⟨1, ?_⟩
  unfold parcloselaw36_owns.l0
  rw [if_neg (by omega), List.take_of_length_le (by omega)]
 | succ n ih =>
  intro i hn hi
  obtain ⟨k, hk⟩ := ih (i + 1) (by omega) (by omega)
  refine ⟨k + 1, ?_⟩
  have hi2 : i < l.length := by omega
  have hsn : (l.take (i + 1)).map eP = (l.take i).map eP ++ [eP (l.getD i z64)] := by rw [List.take_succ_eq_append_getElem hi2, List.map_append, getD_lt l z64 hi2]; rfl
  rw [hsn] at hk
  unfold parcloselaw36_owns.l0
  rw [if_pos (by omega), if_pos (by omega), if_pos (by rw [List.length_map, List.length_take]; omega), pk_rd64, pk_w64 i (by omega)]
  exact hk
theorem powns_ev (l : List S64) (hl : l.length ≤ 100000) : ∃ k, parcloselaw36_owns.f k l = some (l.map eP) := powns_go l hl _ 0 rfl (Nat.zero_le _)
end Go.Proofs.Ytalimpniimgheaa.Fn
namespace Go.Proofs.Ytalimpniimgheaa.Fn
open Go.RowKit Go.Proofs.YtalimpniimgheaaW.PrintWords Go.Proofs.YtalimpniimgheaaW.PrintLast Go.Proofs.YtalimpniimgheaaW.PrintMore
attribute [local go_sem] max2_int min2_int max_two min_two max_three min_three max_four min_four
set_option linter.unusedVariables false
set_option linter.unusedSimpArgs false
def parcloselaw36_num.f (a0 : Int) : Option (Int) := some a0
set_option maxHeartbeats 8000000 in
set_option maxRecDepth 100000 in
theorem parcloselaw36_num.calls (a0 : Int) (r : Int) (w : World) (h : parcloselaw36_num.f a0 = some r) :
  Calls Try.prog 56 #[.int .i64 a0] w fun e w' => e = .returned (.int .i64 r) ∧ Drawn0 w w' := by
 have H : (some a0) = some r := h
 clear h
 obtain rfl := Option.some.inj H
 go_enter Try.func56, Try.ntmps56
 go_wp2
 go_ret
 exact ⟨by first | rfl | (simp; done) | (simp [*]; done), by repeat (first | exact Drawn0.refl _ | apply Drawn0.step)⟩
end Go.Proofs.Ytalimpniimgheaa.Fn
namespace Go.Proofs.Ytalimpniimgheaa.Fn
open Go.RowKit Go.Proofs.YtalimpniimgheaaW.PrintWords Go.Proofs.YtalimpniimgheaaW.PrintLast Go.Proofs.YtalimpniimgheaaW.PrintMore
set_option linter.unusedVariables false
set_option linter.unusedSimpArgs false
instance decS65 : DecidableEq S65 := fun a b => decidable_of_iff (a.f0 = b.f0 ∧ a.f1 = b.f1 ∧ a.f2 = b.f2 ∧ a.f3 = b.f3) (by cases a; cases b; simp)
def xK : S65 := ⟨1, 3, 5, 0⟩
def bsK : List Int := [0, 0, 0, 1, 163, 0, 0, 0, 0, 0, 0, 5, 23, 139]
theorem putK : putP [xK] = (bsK, 0) := by decide +kernel
theorem getK : getP bsK = ([xK], 0) := by decide +kernel
theorem bytesK : Bytes bsK := by unfold Bytes bsK; simp
theorem C_one65 {w : World} {g t : Nat} {a b c d : Int} (h : w.heap[g]? = some (.cells #[.int .i64 a, .int .i64 b, .int .i64 c, .int .i64 d] t (0, 0))) : Kd.C k65 w (some ⟨g, 0, none⟩) 1 [(⟨a, b, c, d⟩ : S65)] := by
 refine ⟨rfl, by simp, fun _ => ⟨_, rfl, ?_⟩⟩
 intro j p hp
 match j, hp with
 | 0, hp =>
  cases hp
  refine ⟨_, rfl, k65_mk w ⟨a, b, c, d⟩, fun i u hu => ?_⟩
  have h2 := blk_cell h i
  rw [add_plain, show 0 * k65.sz + i = i by simp]
  rw [h2]
  match i with
  | 0 => exact hu
  | 1 => exact hu
  | 2 => exact hu
  | 3 => exact hu
  | i + 4 => exact absurd hu (by simp)
 | j + 1, hp => exact absurd hp (by simp)
theorem at_u8 {w : World} {A : Option Addr} {n : Nat} {ys : List Int} (h : Kd.C (Kd.int .u8) w A n ys) (i : Int) (h0 : 0 ≤ i) (h1 : i < n) : ∃ ad, A = some ad ∧ w.cell? (ad.add i.toNat) = some (.int .u8 (ys.getD i.toNat 0)) := by
 obtain ⟨ad, cc, rfl, _, hK, hc0⟩ := Kd.C_get h 0 i h0 h1
 have ee : cc = [.int .u8 (ys.getD i.toNat 0)] := hK
 subst ee
 refine ⟨ad, rfl, ?_⟩
 have h := hc0 0 _ rfl
 rwa [show i.toNat * (Kd.int .u8).sz + 0 = i.toNat from Nat.mul_one _] at h
theorem sizeK : sizeP 128 = 2 := by decide +kernel
set_option maxHeartbeats 8000000 in
set_option maxRecDepth 100000 in
theorem pknows_calls (w : World) : Calls Try.prog 52 #[] w fun e w' => e = .returned (.bool true) ∧ Below w.heap.size w w' := by
 have hu := Try.underlying65
 have C1 := asd (C_one65 (heap_alloc_new w (.cells #[.int .i64 1, .int .i64 3, .int .i64 5, .int .i64 0] 65)))
 have HB0 := asd (below_alloc (Below.refl w.heap.size w) (.cells #[.int .i64 1, .int .i64 3, .int .i64 5, .int .i64 0] 65))
 have SZ := asd (fun wx => pack_Size.calls 1 128 (sizeP 128) wx (psize_all 128 (by omega)))
 rw [sizeK] at SZ
 go_enter Try.func52, Try.ntmps52
 go_wp2_with fail
 generalize w.alloc (.cells #[.int .i64 1, .int .i64 3, .int .i64 5, .int .i64 0] 65) = w1 at C1 HB0 ⊢
 have PC : Calls Try.prog 53 #[.slice (some ⟨w.heap.size, 0, none⟩) 1 1] w1 fun e w' => ∃ A' c', e = .returned (.tuple #[.slice A' 14 c', .int .i64 0]) ∧ 14 ≤ c' ∧ Kd.C (Kd.int .u8) w' A' 14 bsK ∧ Below w1.heap.size w1 w' := by
  have h := pPut_calls (some ⟨w.heap.size, 0, none⟩) 1 [xK] w1 C1.out (Nat.le_refl _) (by decide)
  rw [putK] at h
  exact h
 refine PC.mono ?_
 rintro e w2 ⟨A2, c2, rfl, hc2, hC2, hb⟩
 have C2 := asd (And.intro hc2 hC2)
 have HB1 := asd (below_step HB0.out hb)
 clear PC hc2 hC2 hb C1 HB0
 go_wp2_with fail
 have GC : Calls Try.prog 61 #[.slice A2 14 c2] w2 fun e w' => ∃ A' c', e = .returned (.tuple #[.slice A' 1 c', .int .i64 0]) ∧ 1 ≤ c' ∧ Kd.C k65 w' A' 1 [xK] ∧ Below w2.heap.size w2 w' := by
  have h := pGet_calls A2 c2 bsK w2 C2.out.2 C2.out.1 bytesK (by decide)
  rw [getK] at h
  exact h
 refine GC.mono ?_
 rintro e w3 ⟨A3, c3, rfl, hc3, hC3, hb⟩
 have C3 := asd (And.intro hc3 hC3)
 have HB := asd (below_step HB1.out hb)
 have C2b := asd (Kd.C_below C2.out.2 hb)
 clear GC hc3 hC3 hb HB1 C2
 go_wp2_with fail
 refine (parcloselaw36_num.calls _ _ _ rfl).mono ?_
 rintro e w4 ⟨rfl, hd⟩
 have HB4 := asd (below_step HB.out hd.below)
 have C2c := asd (Kd.C_below C2b.out hd.below)
 have C3c := asd (Kd.C_below C3.out.2 hd.below)
 clear hd HB C2b C3
 go_wp2_with fail
 refine (parcloselaw36_num.calls _ _ _ rfl).mono ?_
 rintro e w5 ⟨rfl, hd⟩
 have HB5 := asd (below_step HB4.out hd.below)
 obtain ⟨ad2, rfl, y4⟩ := at_u8 (Kd.C_below C2c.out hd.below) 4 (by decide) (by decide)
 obtain ⟨ad3, rfl, _, _, z2, _⟩ := at_T65 (Kd.C_below C3c.out hd.below) 0 (by decide) (by decide)
 have ez : ad2.add 0 = ad2 := by cases ad2; rfl
 have y5 : w5.cell? ⟨ad2.block, ad2.off + 4, none⟩ = some (.int .u8 163) := by
  have h := y4
  rw [show ((4 : Int).toNat) = 0 + 4 from rfl, add_field ad2 0 4 (by omega), ez] at h
  exact h
 have ea : ad3.add ((0 : Int).toNat * 4) = ad3 := by cases ad3; rfl
 rw [ea] at z2
 have z3 : w5.cell? ⟨ad3.block, ad3.off + 2, none⟩ = some (.int .i64 5) := z2
 clear hd HB4 C2c C3c y4 z2 ea ez
 go_wp2_with (first | (go_at_call 57; refine (SZ.out _).mono ?_; rintro e w6 ⟨rfl, hb⟩; have HB6 := asd (below_step HB5.out hb); clear hb))
 go_ret
 exact ⟨rfl, HB6.out⟩
end Go.Proofs.Ytalimpniimgheaa.Fn
namespace Go.Proofs.Ytalimpniimgheaa.Fn
open Go.RowKit Go.Proofs.YtalimpniimgheaaW.PrintWords Go.Proofs.YtalimpniimgheaaW.PrintLast Go.Proofs.YtalimpniimgheaaW.PrintMore
set_option linter.unusedVariables false
set_option linter.unusedSimpArgs false
theorem rsum_calls (A : Option Addr) (c : Nat) (bs : List Int) (w : World) (h : Kd.C (Kd.int .u8) w A bs.length bs) (hc : bs.length ≤ c) (hb : Bytes bs) (hl : bs.length ≤ 100000) : Calls Try.prog 60 #[.slice A bs.length c] w fun e w' => e = .returned (.int .i64 (sumP bs)) ∧ Below w.heap.size w w' := by
 obtain ⟨k, hk⟩ := rsum_ev bs hb hl
 refine (parcloseref36_Sum.calls k A c bs _ w h hc hk).mono ?_
 rintro e w1 ⟨rfl, hd⟩
 exact ⟨rfl, hd.below⟩
set_option maxHeartbeats 4000000 in
set_option maxRecDepth 100000 in
theorem pputs_dark (a0 : Option Addr) (c0 : Nat) (x0 : List S64) (n : Int) (a2 : Option Addr) (c2 : Nat) (x2 : List Int) (w : World) (hn : ¬ (x0.length ≤ 200 ∧ x2.length ≤ 2000)) : Calls Try.prog 9 #[.slice a0 x0.length c0, .int .i64 n, .slice a2 x2.length c2] w fun e w' => e = .returned (.bool true) ∧ Below w.heap.size w w' := by
 by_cases h : x0.length ≤ 200
 ·have d0 : decide ((x0.length : Int) > 200) = false := decide_eq_false (by omega)
  have d1 : decide (200 < (x0.length : Int)) = false := d0
  have e0 : decide ((x2.length : Int) > 2000) = true := decide_eq_true (by have : ¬ x2.length ≤ 2000 := fun q => hn ⟨h, q⟩; omega)
  have e1 : decide (2000 < (x2.length : Int)) = true := e0
  clear hn h
  go_enter Try.func9, Try.ntmps9
  go_wp2_with (first | (go_at_call 52; refine (pknows_calls _).mono ?_; rintro e wk ⟨rfl, hb⟩; have HBK := asd hb; clear hb))
  go_ret
  exact ⟨rfl, HBK.out⟩
 ·have d0 : decide ((x0.length : Int) > 200) = true := decide_eq_true (by omega)
  have d1 : decide (200 < (x0.length : Int)) = true := d0
  clear hn h
  go_enter Try.func9, Try.ntmps9
  go_wp2_with (first | (go_at_call 52; refine (pknows_calls _).mono ?_; rintro e wk ⟨rfl, hb⟩; have HBK := asd hb; clear hb))
  go_ret
  exact ⟨rfl, HBK.out⟩
set_option maxHeartbeats 8000000 in
set_option maxRecDepth 100000 in
theorem pputs_light (a0 : Option Addr) (c0 : Nat) (x0 : List S64) (n : Int) (a2 : Option Addr) (c2 : Nat) (x2 : List Int) (w : World) (hr0 : Kd.C k64 w a0 x0.length x0) (hc0 : x0.length ≤ c0) (hr2 : Kd.C (Kd.int .u8) w a2 x2.length x2) (hc2 : x2.length ≤ c2) (hb : Bytes x2) (hn : n ≤ 9223372036854775807) (h0 : x0.length ≤ 200) (h2 : x2.length ≤ 2000) : Calls Try.prog 9 #[.slice a0 x0.length c0, .int .i64 n, .slice a2 x2.length c2] w fun e w' => e = .returned (.bool true) ∧ Below w.heap.size w w' := by
 have d0 : decide ((x0.length : Int) > 200) = false := decide_eq_false (by omega)
 have d1 : decide (200 < (x0.length : Int)) = false := d0
 have e0 : decide ((x2.length : Int) > 2000) = false := decide_eq_false (by omega)
 have e1 : decide (2000 < (x2.length : Int)) = false := e0
 obtain ⟨k1, hk1⟩ := powns_ev x0 (by omega)
 obtain ⟨k2, hk2⟩ := rput_ev x0 (by omega)
 obtain ⟨k3, hk3⟩ := rsize_all n hn
 have hml : (x0.map eP).length = x0.length := List.length_map _
 have OW := asd (parcloselaw36_owns.calls k1 a0 c0 x0 _ w hr0 hc0 hk1)
 have PP := asd (fun A c w1 (h : Kd.C k65 w1 A x0.length (x0.map eP)) (hc : x0.length ≤ c) => pPut_calls A c (x0.map eP) w1 (by rw [hml]; exact h) (by rw [hml]; exact hc) (by rw [hml]; omega))
 simp only [List.length_map] at PP
 have RP := asd (fun w1 (h : Kd.C k64 w1 a0 x0.length x0) => parcloseref36_Put.calls k2 a0 c0 x0 (putP (x0.map eP)).1 (putP (x0.map eP)).2 w1 h hc0 hk2)
 have S1 := asd (fun w1 => pack_Size.calls 1 n (sizeP n) w1 (psize_all n hn))
 have S2 := asd (fun w1 => parcloseref36_Size.calls k3 n (sizeP n) w1 hk3)
 have M1 := asd (fun w1 (h : Kd.C (Kd.int .u8) w1 a2 x2.length x2) => psum_calls a2 c2 x2 w1 h hc2 hb (by omega))
 have M2 := asd (fun w1 (h : Kd.C (Kd.int .u8) w1 a2 x2.length x2) => rsum_calls a2 c2 x2 w1 h hc2 hb (by omega))
 have H0 := asd hr0
 have H2 := asd hr2
 generalize hP : putP (x0.map eP) = P at PP RP
 obtain ⟨pb, pe⟩ := P
 have HP := asd hP
 generalize sizeP n = sz at S1 S2
 generalize sumP x2 = sm at M1 M2
 clear hr0 hc0 hr2 hc2 hb hn h0 h2 hk1 hk2 hk3 hml hP
 go_enter Try.func9, Try.ntmps9
 go_wp2_with fail
 refine OW.out.mono ?_
 rintro e w1 ⟨v, rfl, hv, hb⟩
 obtain ⟨A1, c1, rfl, hc1, hC1⟩ := Kd.R_reads hv
 rw [List.length_map] at hc1 hC1
 simp only [List.length_map]
 have C1 := asd (And.intro hc1 hC1)
 have HB1 := asd hb
 clear hv hb hc1 hC1 OW
 go_wp2_with fail
 refine (PP.out A1 c1 w1 C1.out.2 C1.out.1).mono ?_
 rintro e w2 ⟨A2, c3, rfl, hc3, hC3, hb⟩
 have C2 := asd (And.intro hc3 hC3)
 have HB2 := asd (below_step HB1.out hb)
 clear hc3 hC3 hb PP C1
 go_wp2_with fail
 refine (RP.out w2 (Kd.C_below H0.out HB2.out)).mono ?_
 rintro e w3 ⟨v, rfl, hv, hb⟩
 obtain ⟨A3, c4, rfl, hc4, hC4⟩ := Kd.R_reads hv
 have hst1 := Kd.C_string (P := Try.prog) (src := 78) (dst := 9) Try.underlying78 Try.underlying5 Try.underlying9 (n := pb.length) (c := c3) (Kd.C_below C2.out.2 hb)
 have hst2 := Kd.C_string (P := Try.prog) (src := 78) (dst := 9) Try.underlying78 Try.underlying5 Try.underlying9 (n := pb.length) (c := c4) hC4
 have HB3 := asd (below_step HB2.out hb)
 clear hv hb hc4 hC4 RP C2
 go_wp2_with (first
  | (go_at_call 56; refine (parcloselaw36_num.calls _ _ _ rfl).mono ?_; rintro e w4 ⟨rfl, hd⟩; have HB4 := asd (below_step HB3.out hd.below); clear hd hst1 hst2)
  | (go_at_call 57; refine (S1.out _).mono ?_; rintro e w5 ⟨rfl, hb⟩; have HB5 := asd (below_step HB4.out hb); clear hb)
  | (go_at_call 58; refine (S2.out _).mono ?_; rintro e w6 ⟨rfl, hd⟩; have HB6 := asd (below_step HB5.out hd.below); clear hd)
  | (go_at_call 59; refine (M1.out _ (Kd.C_below H2.out HB6.out)).mono ?_; rintro e w7 ⟨rfl, hb⟩; have HB7 := asd (below_step HB6.out hb); clear hb)
  | (go_at_call 60; refine (M2.out _ (Kd.C_below H2.out HB7.out)).mono ?_; rintro e w8 ⟨rfl, hb⟩; have HB8 := asd (below_step HB7.out hb); clear hb)
  | (go_at_call 52; refine (pknows_calls _).mono ?_; rintro e wk ⟨rfl, hb⟩; have HBK := asd (below_step HB8.out hb); clear hb))
 go_ret
 exact ⟨rfl, HBK.out⟩
theorem wf_i64 {n : Int} (h : (Lit.int .i64 n).wf = true) : -9223372036854775808 ≤ n ∧ n ≤ 9223372036854775807 := by
 simp [Lit.wf] at h
 have h1 : IntKind.i64.min = -9223372036854775808 := by decide
 have h2 : IntKind.i64.max = 9223372036854775807 := by decide
 omega
theorem wf_u8 {n : Int} (h : (Lit.int .u8 n).wf = true) : 0 ≤ n ∧ n < 256 := by
 simp [Lit.wf] at h
 have h1 : IntKind.u8.min = 0 := by decide
 have h2 : IntKind.u8.max = 255 := by decide
 omega
end Go.Proofs.Ytalimpniimgheaa.Fn
