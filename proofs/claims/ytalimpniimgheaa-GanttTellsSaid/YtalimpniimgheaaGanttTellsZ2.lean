/- Part of the proof of GanttTells: see the last text. (Words laid by the print, as far as they are named here; walks written by a program of this project; plain laws.) -/
import Derived.Test.YtalimpniimgheaaGanttTellsZ1
namespace Go.Proofs.Ytalimpniimgheaa.Fn
open Go.RowKit Go.Proofs.YtalimpniimgheaaW.PrintWords Go.Proofs.YtalimpniimgheaaW.PrintLast Go.Proofs.YtalimpniimgheaaW.PrintMore
attribute [local go_sem] max2_int min2_int max_two min_two max_three min_three max_four min_four
set_option linter.unusedVariables false
set_option linter.unusedSimpArgs false
attribute [local go_sem high] eqA110
def parcloselaw35_bars.l0 : Nat → List (S97) → List (S110) → Int → Option (Bool)
 | 0, _, _, _ => none
 | k + 1, x0, x1, x5 => if x5 < (x0.length : Int) then (if 0 ≤ x5 then (if x5 < (x1.length : Int) then (if (!(((rd_T97 x0 x5).f0) == ((rd_T110 x1 x5).f0)) || (!(((rd_T97 x0 x5).f1) == ((rd_T110 x1 x5).f1)) || (!(((rd_T97 x0 x5).f2) == ((rd_T110 x1 x5).f2)) || (!(((rd_T97 x0 x5).f3) == ((rd_T110 x1 x5).f3)))))) = true then (some false) else (parcloselaw35_bars.l0 k x0 x1 (wrap64 (x5 + 1)))) else (none)) else (none)) else (some true)
def parcloselaw35_bars.f (k : Nat) (l0 : List (S97)) (l1 : List (S110)) : Option (Bool) := if (l0.length : Int) = (l1.length : Int) then (parcloselaw35_bars.l0 k l0 l1 0) else (some false)
set_option maxHeartbeats 8000000 in
set_option maxRecDepth 100000 in
theorem parcloselaw35_bars.calls (k : Nat) (A0 : Option Addr) (c0 : Nat) (l0 : List (S97)) (A1 : Option Addr) (c1 : Nat) (l1 : List (S110)) (r : Bool) (w : World) (hr0 : Kd.C k97 w A0 l0.length l0) (hc0 : l0.length ≤ c0) (hr1 : Kd.C k110 w A1 l1.length l1) (hc1 : l1.length ≤ c1) (h : parcloselaw35_bars.f k l0 l1 = some r) :
  Calls Try.prog 28 #[.slice A0 l0.length c0, .slice A1 l1.length c1] w fun e w' => e = .returned (.bool r) ∧ Drawn0 w w' := by
 have hu97 := Try.underlying97
 have hu110 := Try.underlying110
 have HR0 := asd hr0
 have HC0 := asd hc0
 clear hr0 hc0
 have HR1 := asd hr1
 have HC1 := asd hc1
 clear hr1 hc1
 have H : (if (l0.length : Int) = (l1.length : Int) then (parcloselaw35_bars.l0 k l0 l1 0) else (some false)) = some r := h
 clear h
 by_cases c3 : (l0.length : Int) = (l1.length : Int)
 ·rw [if_pos c3] at H
  have c3b0 : ((l0.length : Int) == (l1.length : Int)) = true := beq_iff_eq.mpr c3
  have c3b1 : ((l0.length : Int) != (l1.length : Int)) = false := bne_eq_false_iff_eq.mpr c3
  have c3b2 : (l0.length == l1.length) = true := by first | simpa using c3 | (simp at c3 ⊢; omega)
  clear c3
  have H' := asd H
  clear H
  go_enter Try.func28, Try.ntmps28
  go_wp2
  repeat (go_quiet (fail); try go_wp2)
  go_loopg [5] k (fun kq v5 w' => ∃ (x5_1 : Int), v5 = .int .i64 x5_1 ∧ Aside0 (parcloselaw35_bars.l0 kq l0 l1 x5_1 = some r) ∧ Aside0 (kq ≤ k) ∧ Drawn0 w w')
  case atStart => exact ⟨(0), (by first | rfl | (simp; done) | (simp [*]; done)), H', ⟨Nat.le_refl _⟩, by repeat (first | exact Drawn0.refl _ | apply Drawn0.step)⟩
  case round =>
   clear H'
   try clear c1
   try clear c2
   try clear p2
   try clear c3
   try clear c3b0
   try clear c3b1
   try clear c3b2
   obtain ⟨x5_1, rfl, HA, HK1, ⟨m1, rfl⟩⟩ := hrel
   cases gk with
   | zero => exact absurd HA.out (by simp [parcloselaw35_bars.l0])
   | succ k1 =>
    have H := HA.out
    clear HA
    simp only [parcloselaw35_bars.l0] at H
    by_cases c4 : x5_1 < (l0.length : Int)
    ·rw [if_pos c4] at H
     have c4b0 : decide (x5_1 < (l0.length : Int)) = true := decide_eq_true c4
     clear c4
     by_cases c5 : 0 ≤ x5_1
     ·rw [if_pos c5] at H
      have c5b0 : decide (0 ≤ x5_1) = true := decide_eq_true c5
      clear c5
      by_cases c6 : x5_1 < (l1.length : Int)
      ·rw [if_pos c6] at H
       have c6b0 : decide (x5_1 < (l1.length : Int)) = true := decide_eq_true c6
       clear c6
       by_cases c7 : (!(((rd_T97 l0 x5_1).f0) == ((rd_T110 l1 x5_1).f0)) || (!(((rd_T97 l0 x5_1).f1) == ((rd_T110 l1 x5_1).f1)) || (!(((rd_T97 l0 x5_1).f2) == ((rd_T110 l1 x5_1).f2)) || (!(((rd_T97 l0 x5_1).f3) == ((rd_T110 l1 x5_1).f3)))))) = true
       ·rw [if_pos c7] at H
        have c7b0 : (!(((rd_T97 l0 x5_1).f0) == ((rd_T110 l1 x5_1).f0)) || (!(((rd_T97 l0 x5_1).f1) == ((rd_T110 l1 x5_1).f1)) || (!(((rd_T97 l0 x5_1).f2) == ((rd_T110 l1 x5_1).f2)) || (!(((rd_T97 l0 x5_1).f3) == ((rd_T110 l1 x5_1).f3)))))) = true := c7
        clear c7
        obtain rfl := Option.some.inj H
        have p192 : 0 ≤ (x5_1 : Int) := of_decide_eq_true (by assumption)
        have q192 : x5_1 < (l0.length : Int) := of_decide_eq_true (by assumption)
        obtain ⟨ad192, e192, hx192_0, hx192_1, hx192_2, hx192_3⟩ := at_T97 HR0.out x5_1 p192 q192
        cases e192
        replace p192 := eq_true p192
        replace q192 := eq_true q192
        have p193 : 0 ≤ (x5_1 : Int) := of_decide_eq_true (by assumption)
        have q193 : x5_1 < (l1.length : Int) := of_decide_eq_true (by assumption)
        obtain ⟨ad193, e193, hx193_0, hx193_1, hx193_2, hx193_3⟩ := at_T110 HR1.out x5_1 p193 q193
        cases e193
        replace p193 := eq_true p193
        replace q193 := eq_true q193
        go_wp2
        repeat (go_quiet (fail); try go_wp2)
        go_ret
        exact ⟨by first | rfl | (simp; done) | (simp [*]; done), by repeat (first | exact Drawn0.refl _ | apply Drawn0.step)⟩
       ·rw [if_neg c7] at H
        have c7b0 : (!(((rd_T97 l0 x5_1).f0) == ((rd_T110 l1 x5_1).f0)) || (!(((rd_T97 l0 x5_1).f1) == ((rd_T110 l1 x5_1).f1)) || (!(((rd_T97 l0 x5_1).f2) == ((rd_T110 l1 x5_1).f2)) || (!(((rd_T97 l0 x5_1).f3) == ((rd_T110 l1 x5_1).f3)))))) = false := by simpa using c7
        clear c7
        have H' := asd H
        clear H
        have p192 : 0 ≤ (x5_1 : Int) := of_decide_eq_true (by assumption)
        have q192 : x5_1 < (l0.length : Int) := of_decide_eq_true (by assumption)
        obtain ⟨ad192, e192, hx192_0, hx192_1, hx192_2, hx192_3⟩ := at_T97 HR0.out x5_1 p192 q192
        cases e192
        replace p192 := eq_true p192
        replace q192 := eq_true q192
        have p193 : 0 ≤ (x5_1 : Int) := of_decide_eq_true (by assumption)
        have q193 : x5_1 < (l1.length : Int) := of_decide_eq_true (by assumption)
        obtain ⟨ad193, e193, hx193_0, hx193_1, hx193_2, hx193_3⟩ := at_T110 HR1.out x5_1 p193 q193
        cases e193
        replace p193 := eq_true p193
        replace q193 := eq_true q193
        go_wp2
        repeat (go_quiet (fail); try go_wp2)
        go_roundg k1
        case measure => have := HK1.out; omega
        case rel => exact ⟨(wrap64 (x5_1 + 1)), (by first | rfl | (simp; done) | (simp [*]; done)), H', ⟨by have := HK1.out; omega⟩, by repeat (first | exact Drawn0.refl _ | apply Drawn0.step)⟩
      ·rw [if_neg c6] at H
       exact absurd H (by simp)
     ·rw [if_neg c5] at H
      exact absurd H (by simp)
    ·rw [if_neg c4] at H
     have c4b0 : decide (x5_1 < (l0.length : Int)) = false := decide_eq_false c4
     clear c4
     obtain rfl := Option.some.inj H
     go_wp2
     repeat (go_quiet (fail); try go_wp2)
     go_ret
     exact ⟨by first | rfl | (simp; done) | (simp [*]; done), by repeat (first | exact Drawn0.refl _ | apply Drawn0.step)⟩
 ·rw [if_neg c3] at H
  have c3b0 : ((l0.length : Int) == (l1.length : Int)) = false := beq_eq_false_iff_ne.mpr c3
  have c3b1 : ((l0.length : Int) != (l1.length : Int)) = true := bne_iff_ne.mpr c3
  have c3b2 : (l0.length == l1.length) = false := by first | simpa using c3 | (simp at c3 ⊢; omega)
  obtain rfl := Option.some.inj H
  go_enter Try.func28, Try.ntmps28
  go_wp2
  repeat (go_quiet (fail); try go_wp2)
  go_ret
  exact ⟨by first | rfl | (simp; done) | (simp [*]; done), by repeat (first | exact Drawn0.refl _ | apply Drawn0.step)⟩
end Go.Proofs.Ytalimpniimgheaa.Fn
namespace Go.Proofs.Ytalimpniimgheaa.Fn
open Go.RowKit Go.Proofs.YtalimpniimgheaaW.PrintWords Go.Proofs.YtalimpniimgheaaW.PrintLast Go.Proofs.YtalimpniimgheaaW.PrintMore
attribute [local go_sem] max2_int min2_int max_two min_two max_three min_three max_four min_four
set_option linter.unusedVariables false
set_option linter.unusedSimpArgs false
def parcloselaw35_ran.l0 : Nat → List Int → List (S65) → Int → Option ((List (S65)))
 | 0, _, _, _ => none
 | k + 1, x0, x3, x4 => if x4 < (x0.length : Int) then (if 0 ≤ x4 then (if x3.length < 4398046511104 then (parcloselaw35_ran.l0 k x0 (x3 ++ [(⟨rd x0 x4, 3, 1, 0⟩ : S65)]) (wrap64 (x4 + 1))) else (none)) else (none)) else (some x3)
def parcloselaw35_ran.f (k : Nat) (l0 : List Int) : Option ((List (S65))) := parcloselaw35_ran.l0 k l0 ([] : List (S65)) 0
set_option maxHeartbeats 8000000 in
set_option maxRecDepth 100000 in
theorem parcloselaw35_ran.calls (k : Nat) (A0 : Option Addr) (c0 : Nat) (l0 : List Int) (r : List (S65)) (w : World) (hr0 : Kd.C (Kd.int .i64) w A0 l0.length l0) (hc0 : l0.length ≤ c0) (h : parcloselaw35_ran.f k l0 = some r) :
  Calls Try.prog 71 #[.slice A0 l0.length c0] w fun e w' => ∃ v0_ : Value, e = .returned (v0_) ∧ Kd.R k65 65 w' w.heap.size (fun _ => True) v0_ r ∧ Below w.heap.size w w' := by
 have hu65 := Try.underlying65
 have HR0 := asd hr0
 have HC0 := asd hc0
 clear hr0 hc0
 have HB := asd (Below.refl w.heap.size w)
 have H : (parcloselaw35_ran.l0 k l0 ([] : List (S65)) 0) = some r := h
 clear h
 have H' := asd H
 clear H
 go_enter Try.func71, Try.ntmps71
 go_wp2
 go_loopg [3, 4] k (fun kq v3 v4 w' => ∃ (x3_1 : List (S65)) (x4_1 : Int), v4 = .int .i64 x4_1 ∧ Aside0 (parcloselaw35_ran.l0 kq l0 x3_1 x4_1 = some r) ∧ Aside0 (kq ≤ k) ∧ Aside0 (Kd.R k65 65 w' w.heap.size (fun _ => True) v3 x3_1) ∧ Aside0 (Below w.heap.size w w'))
 case atStart => exact ⟨(([] : List (S65))), (0), (by first | rfl | (simp; done) | (simp [*]; done)), H', ⟨Nat.le_refl _⟩, ⟨by first | exact Kd.R_nil _ _ _ _ _ | exact Kd.N_nil _ _ _ _ _ | exact Kd.V_nil _ _ _ _ _ | exact Kd.Q_nil _ _ _ _ _ | exact Kd.S_nil _ _ _ _ _⟩, ⟨by repeat (first | (with_reducible first | exact HB.out | apply wa | apply wn | apply wd) | exact HB.out)⟩⟩
 case round =>
  clear H'
  obtain ⟨x3_1, x4_1, rfl, HA, HK1, HO_3, HB⟩ := hrel
  cases gk with
  | zero => exact absurd HA.out (by simp [parcloselaw35_ran.l0])
  | succ k1 =>
   have H := HA.out
   clear HA
   simp only [parcloselaw35_ran.l0] at H
   by_cases c2 : x4_1 < (l0.length : Int)
   ·rw [if_pos c2] at H
    have c2b0 : decide (x4_1 < (l0.length : Int)) = true := decide_eq_true c2
    clear c2
    by_cases c3 : 0 ≤ x4_1
    ·rw [if_pos c3] at H
     have c3b0 : decide (0 ≤ x4_1) = true := decide_eq_true c3
     clear c3
     by_cases c4 : x3_1.length < 4398046511104
     ·rw [if_pos c4] at H
      have LMc4 := asd c4
      clear c4
      obtain ⟨y173, hy173⟩ : ∃ y_ : List (S65), y_ = (x3_1 ++ [(⟨rd l0 x4_1, 3, 1, 0⟩ : S65)]) := ⟨_, rfl⟩
      replace H : (parcloselaw35_ran.l0 k1 l0 y173 (wrap64 (x4_1 + 1))) = some r := by first | (rw [hy173]; with_reducible exact H) | (have H2_ := (Option.bind_some _ _).symm.trans H; rw [hy173]; with_reducible exact H2_) | (have H2_ := (Option.bind_some _ _).symm.trans H; with_reducible exact H2_) | with_reducible exact H | (rw [hy173]; exact H) | exact H
      have Ny173 := asd hy173
      clear hy173
      have H' := asd H
      clear H
      have p172 : 0 ≤ (x4_1 : Int) := of_decide_eq_true (by assumption)
      have q172 : x4_1 < (l0.length : Int) := of_decide_eq_true (by assumption)
      obtain ⟨ad172, e172, hx172_0⟩ := Kd.at_int HR0.out x4_1 p172 q172
      cases e172
      replace hx172_0 := (HB.out.cell (World.block_lt_of_cell? w _ hx172_0)).trans hx172_0
      replace p172 := eq_true p172
      replace q172 := eq_true q172
      go_wp2_with (first | ((with_reducible refine gate_builtin (b := .append) (xs := #[.tmp 11, .tmp 17]) rfl ?_); at_builtin; refine Kd.R_append k65 (w0 := w) w.heap.size rfl (.tmp 11) (.tmp 17) 31 65 (.agg #[(.int .i64 0), (.int .i64 0), (.int .i64 0), (.int .i64 0)]) 32 rfl Try.underlying31 info65 rfl (by decide) (by omega) u3 x3_1 (⟨rd l0 x4_1, 3, 1, 0⟩ : S65) [.int .i64 (rd l0 x4_1), .int .i64 3, .int .i64 1, .int .i64 0] (fun _ => True) (fun _ => False) rfl rfl ?aP (fun _ hk => hk.elim) ?aF ?aO ?aB ?aS ?aL ?_; (case aP => exact k65_mkM _ _ _ (⟨rd l0 x4_1, 3, 1, 0⟩ : S65)); (case aB => exact (by repeat (first | (with_reducible first | exact HB.out | apply wa | apply wn | apply wd) | exact HB.out))); (case aF => exact (fun _ _ => trivial)); (case aO => exact (by (with_reducible repeat (first | apply Kd.R_alloc | apply Kd.R_drewN | apply Kd.R_drew)); exact HO_3.out)); (case aS => exact (below_size (by repeat (first | (with_reducible first | exact HB.out | apply wa | apply wn | apply wd) | exact HB.out)))); (case aL => have := LMc4.out; omega); intro v174 w5 ho hb hg hat; rw [← Ny173.out] at ho; have n0_ := asd (hb); have n1_ := asd (ho); clear HB; clear HO_3; have HB := n0_; have HO175 := n1_; clear n0_ n1_; clear ho hb hg hat))
      go_roundg k1
      case measure => have := HK1.out; omega
      case rel => exact ⟨(y173), (wrap64 (x4_1 + 1)), (by first | rfl | (simp; done) | (simp [*]; done)), H', ⟨by have := HK1.out; omega⟩, ⟨by (with_reducible repeat (first | apply Kd.R_alloc | apply Kd.R_drewN | apply Kd.R_drew)); exact HO175.out⟩, ⟨by repeat (first | (with_reducible first | exact HB.out | apply wa | apply wn | apply wd) | exact HB.out)⟩⟩
     ·rw [if_neg c4] at H
      exact absurd H (by simp)
    ·rw [if_neg c3] at H
     exact absurd H (by simp)
   ·rw [if_neg c2] at H
    have c2b0 : decide (x4_1 < (l0.length : Int)) = false := decide_eq_false c2
    clear c2
    obtain rfl := Option.some.inj H
    go_wp2
    go_ret
    exact ⟨_, by first | rfl | (simp [*] <;> rfl), by (with_reducible repeat (first | apply Kd.R_alloc | apply Kd.R_drewN | apply Kd.R_drew)); exact HO_3.out, by repeat (first | (with_reducible first | exact HB.out | apply wa | apply wn | apply wd) | exact HB.out)⟩
end Go.Proofs.Ytalimpniimgheaa.Fn
namespace Go.Proofs.Ytalimpniimgheaa.Fn
open Go.RowKit Go.Proofs.YtalimpniimgheaaW.PrintWords Go.Proofs.YtalimpniimgheaaW.PrintLast Go.Proofs.YtalimpniimgheaaW.PrintMore
set_option linter.unusedVariables false
set_option linter.unusedSimpArgs false
theorem rd64 (l : List S64) (x : Nat) : rd_T64 l (x : Int) = l.getD x z64 := by unfold rd_T64; rw [Int.toNat_natCast]
theorem rd65 (l : List S65) (x : Nat) : rd_T65 l (x : Int) = l.getD x z65 := by unfold rd_T65; rw [Int.toNat_natCast]
theorem rd97 (l : List S97) (x : Nat) : rd_T97 l (x : Int) = l.getD x z97 := by unfold rd_T97; rw [Int.toNat_natCast]
theorem rd110 (l : List S110) (x : Nat) : rd_T110 l (x : Int) = l.getD x z110 := by unfold rd_T110; rw [Int.toNat_natCast]
theorem drop_one {α : Type} (l : List α) (z : α) (x : Nat) (h : x < l.length) : l.drop x = l.getD x z :: l.drop (x + 1) := by rw [getD_lt l z h]; exact List.drop_eq_getElem_cons h
theorem w1 (x : Nat) (h : x ≤ 1000000) : wrap64 ((x : Int) + 1) = ((x + 1 : Nat) : Int) := by unfold wrap64; omega
theorem rsign_ev (a : Int) : Ev (fun k => parcloseref35_sign.f k a) (sgn a) := by
 unfold sgn
 by_cases h0 : a ≥ 0
 ·by_cases h9 : a ≤ 9
  ·refine ⟨1, fun k hk => ?_⟩
   obtain ⟨q, rfl⟩ : ∃ q, k = q + 1 := ⟨k - 1, by omega⟩
   show (if a ≥ 0 then parcloseref35_sign.j0 (q + 1) a (decide (a ≤ 9)) else parcloseref35_sign.j0 (q + 1) a false) = _
   rw [if_pos h0, decide_eq_true h9]
   show (if true = true then some ((wrap64 (48 + a)) % 256) else (if a ≥ 100 then some (115 : Int) else some 63)) = _
   rw [if_pos rfl, if_neg (by omega), if_neg (by omega), if_neg (by omega)]
   unfold wrap64
   congr 1
   omega
  ·refine ⟨1, fun k hk => ?_⟩
   obtain ⟨q, rfl⟩ : ∃ q, k = q + 1 := ⟨k - 1, by omega⟩
   show (if a ≥ 0 then parcloseref35_sign.j0 (q + 1) a (decide (a ≤ 9)) else parcloseref35_sign.j0 (q + 1) a false) = _
   rw [if_pos h0, decide_eq_false h9]
   show (if false = true then some ((wrap64 (48 + a)) % 256) else (if a ≥ 100 then some (115 : Int) else some 63)) = _
   rw [if_neg (by decide)]
   by_cases h1 : a ≥ 100
   ·rw [if_pos h1, if_pos h1]
   ·rw [if_neg h1, if_neg h1, if_neg (by omega), if_pos (by omega)]
 ·refine ⟨1, fun k hk => ?_⟩
  obtain ⟨q, rfl⟩ : ∃ q, k = q + 1 := ⟨k - 1, by omega⟩
  show (if a ≥ 0 then parcloseref35_sign.j0 (q + 1) a (decide (a ≤ 9)) else parcloseref35_sign.j0 (q + 1) a false) = _
  rw [if_neg h0]
  show (if false = true then some ((wrap64 (48 + a)) % 256) else (if a ≥ 100 then some (115 : Int) else some 63)) = _
  rw [if_neg (by decide), if_neg (by omega), if_neg (by omega), if_pos (by omega)]
def at1 (f j : Int) (c : Int) (e : S64) : Int := if e.f1 = 3 ∧ f ≤ e.f0 ∧ e.f0 - f = j then sgn e.f2 else c
def inI (e : S64) : Prop := -9223372036854775808 ≤ e.f0 ∧ e.f0 ≤ 9223372036854775807
theorem row_l1 (xs : List S64) (f t : Int) (hf : 0 ≤ f) (hw : ∀ e ∈ xs, inI e) (hl : xs.length ≤ 1000) (acc : List Int) (ha : acc.length ≤ 1000) (n : Nat) (hn : n ≤ 1000) {r : ByteArray} : ∀ (m i : Nat) (c : Int), i + m = xs.length → Ev (fun k => parcloseref35_Row.l0 k xs f t (acc ++ [(xs.drop i).foldl (at1 f n) c]) ((n + 1 : Nat) : Int)) r → Ev (fun k => parcloseref35_Row.l1 k xs f t acc (n : Int) c (i : Int)) r := by
 intro m
 induction m with
 | zero =>
  intro i c hi he
  rw [List.drop_of_length_le (by omega)] at he
  refine Ev.step (f := fun k => parcloseref35_Row.l0 k xs f t (acc ++ [c]) ((n + 1 : Nat) : Int)) (fun k => by
   simp only [parcloseref35_Row.l1]
   rw [if_neg (by omega), if_pos (by omega), w1 n (by omega)]) he
 | succ m ih =>
  intro i c hi he
  have hlt : i < xs.length := by omega
  have hI := hw (xs.getD i z64) (by rw [getD_lt xs z64 hlt]; exact List.getElem_mem hlt)
  rw [drop_one xs z64 i hlt, List.foldl_cons] at he
  have h := ih (i + 1) (at1 f n c (xs.getD i z64)) (by omega) he
  clear ih he
  generalize hx : xs.getD i z64 = x at h hI
  have rx : rd_T64 xs (i : Int) = x := by rw [rd64, hx]
  unfold inI at hI
  by_cases c1 : x.f1 = 3
  ·by_cases c2 : f ≤ x.f0
   ·have hww : wrap64 (x.f0 - f) = x.f0 - f := by unfold wrap64; omega
    by_cases c3 : x.f0 - f = (n : Int)
    ·have e : at1 f n c x = sgn x.f2 := by unfold at1; rw [if_pos ⟨c1, c2, c3⟩]
     rw [e] at h
     refine Ev.step (f := fun k => (parcloseref35_sign.f k x.f2).bind fun t220 => parcloseref35_Row.l1 k xs f t acc (n : Int) t220 ((i + 1 : Nat) : Int)) (fun k => by
      simp only [parcloseref35_Row.l1]
      rw [if_pos (by omega), if_pos (by omega), rx, if_pos c1, if_pos c2, hww, if_pos c3, w1 i (by omega)]) ?_
     exact Ev.bind (f := fun k t220 => parcloseref35_Row.l1 k xs f t acc (n : Int) t220 ((i + 1 : Nat) : Int)) (rsign_ev _) h
    ·have e : at1 f n c x = c := by unfold at1; rw [if_neg (fun q => c3 q.2.2)]
     rw [e] at h
     refine Ev.step (f := fun k => parcloseref35_Row.l1 k xs f t acc (n : Int) c ((i + 1 : Nat) : Int)) (fun k => by
      simp only [parcloseref35_Row.l1]
      rw [if_pos (by omega), if_pos (by omega), rx, if_pos c1, if_pos c2, hww, if_neg c3, w1 i (by omega)]) h
   ·have e : at1 f n c x = c := by unfold at1; rw [if_neg (fun q => c2 q.2.1)]
    rw [e] at h
    refine Ev.step (f := fun k => parcloseref35_Row.l1 k xs f t acc (n : Int) c ((i + 1 : Nat) : Int)) (fun k => by
     simp only [parcloseref35_Row.l1]
     rw [if_pos (by omega), if_pos (by omega), rx, if_pos c1, if_neg (by omega), w1 i (by omega)]) h
  ·have e : at1 f n c x = c := by unfold at1; rw [if_neg (fun q => c1 q.1)]
   rw [e] at h
   refine Ev.step (f := fun k => parcloseref35_Row.l1 k xs f t acc (n : Int) c ((i + 1 : Nat) : Int)) (fun k => by
    simp only [parcloseref35_Row.l1]
    rw [if_pos (by omega), if_pos (by omega), rx, if_neg c1, w1 i (by omega)]) h
def rowN (f t : Int) : Nat := if f < 0 ∨ t ≤ f then 0 else (mn (t - f) 400).toNat
theorem row_l0 (xs : List S64) (f t : Int) (hf : 0 ≤ f) (ht : -9223372036854775808 ≤ t ∧ t ≤ 9223372036854775807) (hw : ∀ e ∈ xs, inI e) (hl : xs.length ≤ 1000) : ∀ (m n : Nat) (acc : List Int), n + m = rowN f t → acc.length = n → Ev (fun k => parcloseref35_Row.l0 k xs f t acc (n : Int)) (strOfNums (acc ++ (List.range' n m).map fun j => xs.foldl (at1 f (j : Nat)) 46)) := by
 intro m
 induction m with
 | zero =>
  intro n acc hn ha
  simp only [List.range'_zero, List.map_nil, List.append_nil]
  have hc : ¬ ((n : Int) < 400 ∧ f < wrap64 (t - n)) := by
   rintro ⟨h1, h2⟩
   unfold rowN mn at hn
   unfold wrap64 at h2
   split at hn
   ·omega
   ·split at hn <;> omega
  refine Ev.step (f := fun k => parcloseref35_Row.j1 k xs f t acc (n : Int) false) (fun k => by
   simp only [parcloseref35_Row.l0]
   by_cases h4 : (n : Int) < 400
   ·rw [if_pos h4, decide_eq_false (fun q => hc ⟨h4, q⟩)]
   ·rw [if_neg h4]) ?_
  refine Ev.step (f := fun _ => some (strOfNums acc)) (fun k => by simp only [parcloseref35_Row.j1]; rw [if_neg (by decide)]) (Ev.now _)
 | succ m ih =>
  intro n acc hn ha
  have hr : n < rowN f t := by omega
  have hN : (n : Int) < 400 ∧ f < wrap64 (t - n) := by
   unfold rowN mn at hr
   unfold wrap64
   split at hr
   ·omega
   ·split at hr <;> omega
  have h := ih (n + 1) (acc ++ [xs.foldl (at1 f n) 46]) (by omega) (by simp [ha])
  rw [List.append_assoc] at h
  rw [List.range'_succ, List.map_cons]
  refine Ev.step (f := fun k => parcloseref35_Row.j1 k xs f t acc (n : Int) true) (fun k => by
   simp only [parcloseref35_Row.l0]
   rw [if_pos hN.1, decide_eq_true hN.2]) ?_
  refine Ev.step (f := fun k => parcloseref35_Row.l1 k xs f t acc (n : Int) 46 ((0 : Nat) : Int)) (fun k => by simp only [parcloseref35_Row.j1]; rw [if_pos trivial]; rfl) ?_
  exact row_l1 xs f t hf hw hl acc (by omega) n (by omega) xs.length 0 46 (by omega) h
def rrowOf (f t : Int) (xs : List S64) : List Int := (List.range' 0 (rowN f t)).map fun j => xs.foldl (at1 f (j : Nat)) 46
theorem rrow_f (xs : List S64) (f t : Int) (ht : -9223372036854775808 ≤ t ∧ t ≤ 9223372036854775807) (hw : ∀ e ∈ xs, inI e) (hl : xs.length ≤ 1000) : ∃ k, parcloseref35_Row.f k xs f t = some (strOfNums (rrowOf f t xs)) := by
 unfold parcloseref35_Row.f
 by_cases h0 : f < 0
 ·refine ⟨0, ?_⟩
  rw [if_pos h0]
  unfold rrowOf rowN
  rw [if_pos (.inl h0)]
  rfl
 ·have h := row_l0 xs f t (by omega) ht hw hl (rowN f t) 0 [] (by omega) rfl
  obtain ⟨k, hk⟩ := h.rounds
  exact ⟨k, by rw [if_neg h0]; exact hk⟩
theorem paints_map (f : Int) (N : Nat) (es : List S65) : ∀ (g : Nat → Int), es.foldl (paint f N) ((List.range' 0 N).map g) = (List.range' 0 N).map fun j => es.foldl (fun c e => at1 f (j : Nat) c (toR e)) (g j) := by
 induction es with
 | nil => intro g; rfl
 | cons e r ih =>
  intro g
  simp only [List.foldl_cons]
  have h : paint f N ((List.range' 0 N).map g) e = (List.range' 0 N).map fun j => at1 f (j : Nat) (g j) (toR e) := by
   unfold paint at1 toR
   by_cases c : e.f1 = 3 ∧ f ≤ e.f0 ∧ e.f0 - f < (N : Int)
   ·rw [if_pos c]
    refine List.ext_getElem (by simp) (fun i h1 h2 => ?_)
    simp only [List.getElem_set, List.getElem_map, List.getElem_range']
    by_cases hi : (e.f0 - f).toNat = i
    ·rw [if_pos hi, if_pos ⟨c.1, c.2.1, by omega⟩]
    ·rw [if_neg hi, if_neg (fun q => hi (by have h2 : e.f0 - f = _ := q.2.2; omega))]
   ·rw [if_neg c]
    refine List.map_congr_left (fun j hj => ?_)
    rw [if_neg (fun q => c ⟨q.1, q.2.1, by have h2 : e.f0 - f = (j : Int) := q.2.2; simp [List.mem_range'] at hj; omega⟩)]
  rw [h, ih]
theorem rowOf_eq (f t : Int) (xs : List S64) : rowOf f t (xs.map toE) = rrowOf f t xs := by
 unfold rowOf rrowOf rowN
 by_cases h : f < 0 ∨ t ≤ f
 ·rw [if_pos h, if_pos h]; rfl
 ·rw [if_neg h, if_neg h]
  have hm : mn (t - f) 400 = ((mn (t - f) 400).toNat : Int) := by unfold mn; split <;> omega
  rw [show List.replicate (mn (t - f) 400).toNat (46 : Int) = (List.range' 0 (mn (t - f) 400).toNat).map (fun _ => (46 : Int)) by rw [List.map_const', List.length_range']]
  rw [hm, Int.toNat_natCast, paints_map]
  refine List.map_congr_left (fun j _ => ?_)
  rw [List.foldl_map]
  rfl
def toB (b : S110) : S97 := ⟨b.f0, b.f1, b.f2, b.f3⟩
def okE (e : S64) : Prop := e.f1 = 3 ∧ 0 ≤ e.f0 ∧ e.f0 < 4611686018427387904
instance (e : S64) : Decidable (okE e) := by unfold okE; infer_instance
def addBar (out : List S110) (x : S110) : List S110 := if out ≠ [] ∧ (out.getD (out.length - 1) z110).f1 = x.f0 ∧ (out.getD (out.length - 1) z110).f2 = x.f2 ∧ (out.getD (out.length - 1) z110).f3 = x.f3 then out.set (out.length - 1) ⟨(out.getD (out.length - 1) z110).f0, x.f1, (out.getD (out.length - 1) z110).f2, (out.getD (out.length - 1) z110).f3⟩ else out ++ [x]
def barE (e : S64) : S110 := ⟨e.f0, e.f0 + 1, e.f2, e.f3⟩
def stepBar (out : List S110) (e : S64) : List S110 := if okE e then addBar out (barE e) else out
theorem step_no {acc : List S110} {x : S64} (h : ¬ okE x) : stepBar acc x = acc := if_neg h
theorem step_yes {acc : List S110} {x : S64} (h : okE x) : stepBar acc x = addBar acc (barE x) := if_pos h
theorem addBar_le (out : List S110) (x : S110) : (addBar out x).length ≤ out.length + 1 := by unfold addBar; split <;> simp
theorem stepBar_le (out : List S110) (e : S64) : (stepBar out e).length ≤ out.length + 1 := by unfold stepBar; split; exact addBar_le _ _; omega
theorem rbars_l0 (xs : List S64) (hl : xs.length ≤ 1000) : ∀ (m i : Nat) (acc : List S110), i + m = xs.length → acc.length ≤ i → Ev (fun k => parcloseref35_Bars.l0 k xs acc (i : Int)) ((xs.drop i).foldl stepBar acc) := by
 intro m
 induction m with
 | zero =>
  intro i acc hi ha
  rw [List.drop_of_length_le (by omega)]
  refine Ev.step (f := fun _ => some acc) (fun k => by simp only [parcloseref35_Bars.l0]; rw [if_neg (by omega)]) (Ev.now _)
 | succ m ih =>
  intro i acc hi ha
  have hlt : i < xs.length := by omega
  rw [drop_one xs z64 i hlt, List.foldl_cons]
  have rx := rd64 xs i
  generalize xs.getD i z64 = x at rx
  have h := ih (i + 1) (stepBar acc x) (by omega) (by have := stepBar_le acc x; omega)
  have jskip : ∀ b, Ev (fun k => parcloseref35_Bars.l0 k xs acc ((i + 1 : Nat) : Int)) ((xs.drop (i + 1)).foldl stepBar acc) → b = true → Ev (fun k => parcloseref35_Bars.j1 k xs acc (i : Int) b x.f0 x.f1 x.f2 x.f3) ((xs.drop (i + 1)).foldl stepBar acc) := by
   intro b he hb
   refine Ev.step (f := fun k => parcloseref35_Bars.l0 k xs acc ((i + 1 : Nat) : Int)) (fun k => by
    simp only [parcloseref35_Bars.j1]
    rw [if_pos hb, w1 i (by omega)]) he
  by_cases c1 : x.f1 = 3
  ·by_cases c2 : x.f0 < 0
   ·have e : stepBar acc x = acc := step_no (by unfold okE; omega)
    rw [e] at h ⊢
    refine Ev.step (f := fun k => parcloseref35_Bars.j1 k xs acc (i : Int) true x.f0 x.f1 x.f2 x.f3) (fun k => by
     simp only [parcloseref35_Bars.l0]
     rw [if_pos (by omega), if_pos (by omega), rx, if_pos c1, if_pos c2]) (jskip _ h rfl)
   ·refine Ev.step (f := fun k => parcloseref35_Bars.j1 k xs acc (i : Int) (decide (x.f0 ≥ 4611686018427387904)) x.f0 x.f1 x.f2 x.f3) (fun k => by
     simp only [parcloseref35_Bars.l0]
     rw [if_pos (by omega), if_pos (by omega), rx, if_pos c1, if_neg c2]) ?_
    by_cases c3 : x.f0 ≥ 4611686018427387904
    ·have e : stepBar acc x = acc := step_no (by unfold okE; omega)
     rw [e] at h ⊢
     exact jskip _ h (decide_eq_true c3)
    ·have e : stepBar acc x = addBar acc (barE x) := step_yes (by unfold okE; omega)
     rw [e] at h ⊢
     have hw : wrap64 (x.f0 + 1) = x.f0 + 1 := by unfold wrap64; omega
     rw [decide_eq_false c3]
     have hnew : ∀ (q : addBar acc (barE x) = acc ++ [barE x]), Ev (fun k => if acc.length < 4398046511104 then parcloseref35_Bars.l0 k xs (acc ++ [(⟨x.f0, wrap64 (x.f0 + 1), x.f2, x.f3⟩ : S110)]) (wrap64 ((i : Int) + 1)) else none) ((xs.drop (i + 1)).foldl stepBar (addBar acc (barE x))) := by
      intro q
      refine Ev.congr (f := fun k => parcloseref35_Bars.l0 k xs (addBar acc (barE x)) ((i + 1 : Nat) : Int)) (fun k => ?_) h
      rw [if_pos (by omega), w1 i (by omega), q, hw]
      rfl
     by_cases c4 : acc = []
     ·have q : addBar acc (barE x) = acc ++ [barE x] := by unfold addBar; rw [if_neg (fun q => q.1 c4)]
      refine Ev.step (f := _) (fun k => by
       simp only [parcloseref35_Bars.j1]
       rw [if_neg (by simp), if_neg (by subst c4; unfold wrap64; simp)]) (hnew q)
     ·have hp : 0 < acc.length := List.length_pos_iff.2 c4
      have hk : wrap64 ((acc.length : Int) - 1) = ((acc.length - 1 : Nat) : Int) := by unfold wrap64; omega
      have rl := rd110 acc (acc.length - 1)
      generalize hL : acc.getD (acc.length - 1) z110 = L at rl
      by_cases c5 : L.f1 = x.f0
      ·by_cases c6 : L.f2 = x.f2
       ·by_cases c7 : L.f3 = x.f3
        ·have q : addBar acc (barE x) = acc.set (acc.length - 1) ⟨L.f0, x.f0 + 1, L.f2, L.f3⟩ := by unfold addBar; rw [hL, if_pos ⟨c4, c5, c6, c7⟩]; rfl
         refine Ev.step (f := fun k => parcloseref35_Bars.l0 k xs (addBar acc (barE x)) ((i + 1 : Nat) : Int)) (fun k => by
          simp only [parcloseref35_Bars.j1]
          rw [if_neg (by simp), hk, if_pos (by omega), if_pos (by omega), if_pos (by omega), rl, if_pos c5, if_pos c6, if_pos c7, w1 i (by omega), q, hw, Int.toNat_natCast]) h
        ·have q : addBar acc (barE x) = acc ++ [barE x] := by unfold addBar; rw [hL, if_neg (fun q => c7 q.2.2.2)]
         refine Ev.step (f := _) (fun k => by
          simp only [parcloseref35_Bars.j1]
          rw [if_neg (by simp), hk, if_pos (by omega), if_pos (by omega), if_pos (by omega), rl, if_pos c5, if_pos c6, if_neg c7]) (hnew q)
       ·have q : addBar acc (barE x) = acc ++ [barE x] := by unfold addBar; rw [hL, if_neg (fun q => c6 q.2.2.1)]
        refine Ev.step (f := _) (fun k => by
         simp only [parcloseref35_Bars.j1]
         rw [if_neg (by simp), hk, if_pos (by omega), if_pos (by omega), if_pos (by omega), rl, if_pos c5, if_neg c6]) (hnew q)
      ·have q : addBar acc (barE x) = acc ++ [barE x] := by unfold addBar; rw [hL, if_neg (fun q => c5 q.2.1)]
       refine Ev.step (f := _) (fun k => by
        simp only [parcloseref35_Bars.j1]
        rw [if_neg (by simp), hk, if_pos (by omega), if_pos (by omega), if_pos (by omega), rl, if_neg c5]) (hnew q)
  ·have e : stepBar acc x = acc := step_no (by unfold okE; omega)
   rw [e] at h ⊢
   refine Ev.step (f := fun k => parcloseref35_Bars.j1 k xs acc (i : Int) true x.f0 x.f1 x.f2 x.f3) (fun k => by
    simp only [parcloseref35_Bars.l0]
    rw [if_pos (by omega), if_pos (by omega), rx, if_neg c1]) (jskip _ h rfl)
def barsOf (xs : List S64) : List S110 := xs.foldl stepBar []
theorem rbars_f (xs : List S64) (hl : xs.length ≤ 1000) : ∃ k, parcloseref35_Bars.f k xs = some (barsOf xs) := by
 have h := rbars_l0 xs hl xs.length 0 [] (by omega) (by simp)
 simp only [List.drop_zero] at h
 exact h.rounds
end Go.Proofs.Ytalimpniimgheaa.Fn
namespace Go.Proofs.Ytalimpniimgheaa.Fn
open Go.RowKit Go.Proofs.YtalimpniimgheaaW.PrintWords Go.Proofs.YtalimpniimgheaaW.PrintLast Go.Proofs.YtalimpniimgheaaW.PrintMore
attribute [local go_sem] max2_int min2_int max_two min_two max_three min_three max_four min_four
set_option linter.unusedVariables false
set_option linter.unusedSimpArgs false
def parcloselaw35_owns.l0 : Nat → List (S64) → List (S65) → Int → Option ((List (S65)))
 | 0, _, _, _ => none
 | k + 1, x0, x3, x4 => if x4 < (x0.length : Int) then (if 0 ≤ x4 then (if x3.length < 4398046511104 then (parcloselaw35_owns.l0 k x0 (x3 ++ [(⟨(rd_T64 x0 x4).f0, (rd_T64 x0 x4).f1, (rd_T64 x0 x4).f2, (rd_T64 x0 x4).f3⟩ : S65)]) (wrap64 (x4 + 1))) else (none)) else (none)) else (some x3)
def parcloselaw35_owns.f (k : Nat) (l0 : List (S64)) : Option ((List (S65))) := parcloselaw35_owns.l0 k l0 ([] : List (S65)) 0
set_option maxHeartbeats 8000000 in
set_option maxRecDepth 100000 in
theorem parcloselaw35_owns.calls (k : Nat) (A0 : Option Addr) (c0 : Nat) (l0 : List (S64)) (r : List (S65)) (w : World) (hr0 : Kd.C k64 w A0 l0.length l0) (hc0 : l0.length ≤ c0) (h : parcloselaw35_owns.f k l0 = some r) :
  Calls Try.prog 30 #[.slice A0 l0.length c0] w fun e w' => ∃ v0_ : Value, e = .returned (v0_) ∧ Kd.R k65 65 w' w.heap.size (fun _ => True) v0_ r ∧ Below w.heap.size w w' := by
 have hu64 := Try.underlying64
 have HR0 := asd hr0
 have HC0 := asd hc0
 clear hr0 hc0
 have HB := asd (Below.refl w.heap.size w)
 have H : (parcloselaw35_owns.l0 k l0 ([] : List (S65)) 0) = some r := h
 clear h
 have H' := asd H
 clear H
 go_enter Try.func30, Try.ntmps30
 go_wp2
 go_loopg [3, 4] k (fun kq v3 v4 w' => ∃ (x3_1 : List (S65)) (x4_1 : Int), v4 = .int .i64 x4_1 ∧ Aside0 (parcloselaw35_owns.l0 kq l0 x3_1 x4_1 = some r) ∧ Aside0 (kq ≤ k) ∧ Aside0 (Kd.R k65 65 w' w.heap.size (fun _ => True) v3 x3_1) ∧ Aside0 (Below w.heap.size w w'))
 case atStart => exact ⟨(([] : List (S65))), (0), (by first | rfl | (simp; done) | (simp [*]; done)), H', ⟨Nat.le_refl _⟩, ⟨by first | exact Kd.R_nil _ _ _ _ _ | exact Kd.N_nil _ _ _ _ _ | exact Kd.V_nil _ _ _ _ _ | exact Kd.Q_nil _ _ _ _ _ | exact Kd.S_nil _ _ _ _ _⟩, ⟨by repeat (first | (with_reducible first | exact HB.out | apply wa | apply wn | apply wd) | exact HB.out)⟩⟩
 case round =>
  clear H'
  obtain ⟨x3_1, x4_1, rfl, HA, HK1, HO_3, HB⟩ := hrel
  cases gk with
  | zero => exact absurd HA.out (by simp [parcloselaw35_owns.l0])
  | succ k1 =>
   have H := HA.out
   clear HA
   simp only [parcloselaw35_owns.l0] at H
   by_cases c2 : x4_1 < (l0.length : Int)
   ·rw [if_pos c2] at H
    have c2b0 : decide (x4_1 < (l0.length : Int)) = true := decide_eq_true c2
    clear c2
    by_cases c3 : 0 ≤ x4_1
    ·rw [if_pos c3] at H
     have c3b0 : decide (0 ≤ x4_1) = true := decide_eq_true c3
     clear c3
     by_cases c4 : x3_1.length < 4398046511104
     ·rw [if_pos c4] at H
      have LMc4 := asd c4
      clear c4
      obtain ⟨y195, hy195⟩ : ∃ y_ : List (S65), y_ = (x3_1 ++ [(⟨(rd_T64 l0 x4_1).f0, (rd_T64 l0 x4_1).f1, (rd_T64 l0 x4_1).f2, (rd_T64 l0 x4_1).f3⟩ : S65)]) := ⟨_, rfl⟩
      replace H : (parcloselaw35_owns.l0 k1 l0 y195 (wrap64 (x4_1 + 1))) = some r := by first | (rw [hy195]; with_reducible exact H) | (have H2_ := (Option.bind_some _ _).symm.trans H; rw [hy195]; with_reducible exact H2_) | (have H2_ := (Option.bind_some _ _).symm.trans H; with_reducible exact H2_) | with_reducible exact H | (rw [hy195]; exact H) | exact H
      have Ny195 := asd hy195
      clear hy195
      have H' := asd H
      clear H
      have p194 : 0 ≤ (x4_1 : Int) := of_decide_eq_true (by assumption)
      have q194 : x4_1 < (l0.length : Int) := of_decide_eq_true (by assumption)
      obtain ⟨ad194, e194, hx194_0, hx194_1, hx194_2, hx194_3⟩ := at_T64 HR0.out x4_1 p194 q194
      cases e194
      replace hx194_0 := (HB.out.cell (World.block_lt_of_cell? w _ hx194_0)).trans hx194_0
      replace hx194_1 := (HB.out.cell (World.block_lt_of_cell? w _ hx194_1)).trans hx194_1
      replace hx194_2 := (HB.out.cell (World.block_lt_of_cell? w _ hx194_2)).trans hx194_2
      replace hx194_3 := (HB.out.cell (World.block_lt_of_cell? w _ hx194_3)).trans hx194_3
      replace p194 := eq_true p194
      replace q194 := eq_true q194
      go_wp2_with (first | ((with_reducible refine gate_builtin (b := .append) (xs := #[.tmp 11, .tmp 16]) rfl ?_); at_builtin; refine Kd.R_append k65 (w0 := w) w.heap.size rfl (.tmp 11) (.tmp 16) 31 65 (.agg #[(.int .i64 0), (.int .i64 0), (.int .i64 0), (.int .i64 0)]) 32 rfl Try.underlying31 info65 rfl (by decide) (by omega) u3 x3_1 (⟨(rd_T64 l0 x4_1).f0, (rd_T64 l0 x4_1).f1, (rd_T64 l0 x4_1).f2, (rd_T64 l0 x4_1).f3⟩ : S65) [.int .i64 ((rd_T64 l0 x4_1).f0), .int .i64 ((rd_T64 l0 x4_1).f1), .int .i64 ((rd_T64 l0 x4_1).f2), .int .i64 ((rd_T64 l0 x4_1).f3)] (fun _ => True) (fun _ => False) rfl rfl ?aP (fun _ hk => hk.elim) ?aF ?aO ?aB ?aS ?aL ?_; (case aP => exact k65_mkM _ _ _ (⟨(rd_T64 l0 x4_1).f0, (rd_T64 l0 x4_1).f1, (rd_T64 l0 x4_1).f2, (rd_T64 l0 x4_1).f3⟩ : S65)); (case aB => exact (by repeat (first | (with_reducible first | exact HB.out | apply wa | apply wn | apply wd) | exact HB.out))); (case aF => exact (fun _ _ => trivial)); (case aO => exact (by (with_reducible repeat (first | apply Kd.R_alloc | apply Kd.R_drewN | apply Kd.R_drew)); exact HO_3.out)); (case aS => exact (below_size (by repeat (first | (with_reducible first | exact HB.out | apply wa | apply wn | apply wd) | exact HB.out)))); (case aL => have := LMc4.out; omega); intro v196 w5 ho hb hg hat; rw [← Ny195.out] at ho; have n0_ := asd (hb); have n1_ := asd (ho); clear HB; clear HO_3; have HB := n0_; have HO197 := n1_; clear n0_ n1_; clear ho hb hg hat))
      go_roundg k1
      case measure => have := HK1.out; omega
      case rel => exact ⟨(y195), (wrap64 (x4_1 + 1)), (by first | rfl | (simp; done) | (simp [*]; done)), H', ⟨by have := HK1.out; omega⟩, ⟨by (with_reducible repeat (first | apply Kd.R_alloc | apply Kd.R_drewN | apply Kd.R_drew)); exact HO197.out⟩, ⟨by repeat (first | (with_reducible first | exact HB.out | apply wa | apply wn | apply wd) | exact HB.out)⟩⟩
     ·rw [if_neg c4] at H
      exact absurd H (by simp)
    ·rw [if_neg c3] at H
     exact absurd H (by simp)
   ·rw [if_neg c2] at H
    have c2b0 : decide (x4_1 < (l0.length : Int)) = false := decide_eq_false c2
    clear c2
    obtain rfl := Option.some.inj H
    go_wp2
    go_ret
    exact ⟨_, by first | rfl | (simp [*] <;> rfl), by (with_reducible repeat (first | apply Kd.R_alloc | apply Kd.R_drewN | apply Kd.R_drew)); exact HO_3.out, by repeat (first | (with_reducible first | exact HB.out | apply wa | apply wn | apply wd) | exact HB.out)⟩
end Go.Proofs.Ytalimpniimgheaa.Fn
namespace Go.Proofs.Ytalimpniimgheaa.Fn
open Go.RowKit Go.Proofs.YtalimpniimgheaaW.PrintWords Go.Proofs.YtalimpniimgheaaW.PrintLast Go.Proofs.YtalimpniimgheaaW.PrintMore
set_option linter.unusedVariables false
set_option linter.unusedSimpArgs false
attribute [local go_sem] max2_mx min2_mn max_two min_two
theorem rdm65 (es : List S64) (x : Nat) (h : x < es.length) : rd_T65 (es.map toE) (x : Int) = toE (es.getD x z64) := by
 rw [rd65, getD_lt _ _ (by rw [List.length_map]; exact h), List.getElem_map, getD_lt _ _ h]
theorem rdm97 (ts : List S110) (x : Nat) (h : x < ts.length) : rd_T97 (ts.map toB) (x : Int) = toB (ts.getD x z110) := by
 rw [rd97, getD_lt _ _ (by rw [List.length_map]; exact h), List.getElem_map, getD_lt _ _ h]
theorem rans_l0 (es : List S64) (hl : es.length ≤ 1000) : ∀ (m i : Nat) (acc : List S97), i + m = es.length → acc.length ≤ i → Ev (fun k => gantt_rans.l0 k acc (es.map toE) (es.length : Int) (i : Int)) (acc ++ ((es.drop i).filter (fun e => decide (okE e))).map (fun e => toB (barE e))) := by
 intro m
 induction m with
 | zero =>
  intro i acc hi ha
  rw [List.drop_of_length_le (by omega)]
  simp only [List.filter_nil, List.map_nil, List.append_nil]
  exact Ev.step (f := fun _ => some acc) (fun k => by simp only [gantt_rans.l0]; rw [if_neg (by omega)]) (Ev.now _)
 | succ m ih =>
  intro i acc hi ha
  have hlt : i < es.length := by omega
  rw [drop_one es z64 i hlt, List.filter_cons]
  have rx := rdm65 es i hlt
  generalize es.getD i z64 = x at rx
  have f0 : (toE x).f0 = x.f0 := rfl
  have f1 : (toE x).f1 = x.f1 := rfl
  have f2 : (toE x).f2 = x.f2 := rfl
  have f3 : (toE x).f3 = x.f3 := rfl
  by_cases c1 : x.f1 = 3
  ·by_cases c2 : x.f0 ≥ 0
   ·by_cases c3 : x.f0 < 4611686018427387904
    ·have hw : wrap64 (x.f0 + 1) = x.f0 + 1 := by unfold wrap64; omega
     rw [if_pos (decide_eq_true (show okE x from ⟨c1, by omega, c3⟩)), List.map_cons]
     have h := ih (i + 1) (acc ++ [toB (barE x)]) (by omega) (by simp; omega)
     rw [List.append_assoc] at h
     refine Ev.step (f := fun k => gantt_rans.l0 k (acc ++ [toB (barE x)]) (es.map toE) (es.length : Int) ((i + 1 : Nat) : Int)) (fun k => by
      simp only [gantt_rans.l0]
      rw [if_pos (by omega), if_pos (by omega), if_pos (by rw [List.length_map]; omega), rx, f0, f1, f2, f3, if_pos c1, if_pos c2, if_pos c3, if_pos (by omega), hw, w1 i (by omega)]
      rfl) h
    ·rw [if_neg (by simp only [decide_eq_true_eq]; unfold okE; omega)]
     refine Ev.step (f := fun k => gantt_rans.l0 k acc (es.map toE) (es.length : Int) ((i + 1 : Nat) : Int)) (fun k => by
      simp only [gantt_rans.l0]
      rw [if_pos (by omega), if_pos (by omega), if_pos (by rw [List.length_map]; omega), rx, f0, f1, if_pos c1, if_pos c2, if_neg c3, w1 i (by omega)]) (ih (i + 1) acc (by omega) (by omega))
   ·rw [if_neg (by simp only [decide_eq_true_eq]; unfold okE; omega)]
    refine Ev.step (f := fun k => gantt_rans.l0 k acc (es.map toE) (es.length : Int) ((i + 1 : Nat) : Int)) (fun k => by
     simp only [gantt_rans.l0]
     rw [if_pos (by omega), if_pos (by omega), if_pos (by rw [List.length_map]; omega), rx, f0, f1, if_pos c1, if_neg c2, w1 i (by omega)]) (ih (i + 1) acc (by omega) (by omega))
  ·rw [if_neg (by simp only [decide_eq_true_eq]; unfold okE; omega)]
   refine Ev.step (f := fun k => gantt_rans.l0 k acc (es.map toE) (es.length : Int) ((i + 1 : Nat) : Int)) (fun k => by
    simp only [gantt_rans.l0]
    rw [if_pos (by omega), if_pos (by omega), if_pos (by rw [List.length_map]; omega), rx, f1, if_neg c1, w1 i (by omega)]) (ih (i + 1) acc (by omega) (by omega))
theorem gbars_l0 (ts : List S110) (hl : ts.length ≤ 1000) : ∀ (m i : Nat) (acc : List S110), i + m = ts.length → acc.length ≤ i → Ev (fun k => gantt_Bars.l0 k (acc.map toB) (ts.map toB) (ts.length : Int) (i : Int)) (((ts.drop i).foldl addBar acc).map toB) := by
 intro m
 induction m with
 | zero =>
  intro i acc hi ha
  rw [List.drop_of_length_le (by omega)]
  exact Ev.step (f := fun _ => some (acc.map toB)) (fun k => by simp only [gantt_Bars.l0]; rw [if_neg (by omega)]) (Ev.now _)
 | succ m ih =>
  intro i acc hi ha
  have hlt : i < ts.length := by omega
  rw [drop_one ts z110 i hlt, List.foldl_cons]
  have rx := rdm97 ts i hlt
  generalize ts.getD i z110 = x at rx
  have h := ih (i + 1) (addBar acc x) (by omega) (by have := addBar_le acc x; omega)
  have hnew : ∀ (q : addBar acc x = acc ++ [x]), Ev (fun k => if (acc.map toB).length < 4398046511104 then gantt_Bars.l0 k (acc.map toB ++ [(⟨(toB x).f0, (toB x).f1, (toB x).f2, (toB x).f3⟩ : S97)]) (ts.map toB) (ts.length : Int) (wrap64 ((i : Int) + 1)) else none) (((ts.drop (i + 1)).foldl addBar (addBar acc x)).map toB) := by
   intro q
   refine Ev.congr (f := fun k => gantt_Bars.l0 k ((addBar acc x).map toB) (ts.map toB) (ts.length : Int) ((i + 1 : Nat) : Int)) (fun k => ?_) h
   rw [if_pos (by rw [List.length_map]; omega), w1 i (by omega), q, List.map_append]
   rfl
  by_cases c4 : acc = []
  ·have q : addBar acc x = acc ++ [x] := by unfold addBar; rw [if_neg (fun q => q.1 c4)]
   refine Ev.step (f := _) (fun k => by
    simp only [gantt_Bars.l0]
    rw [if_pos (by omega), if_pos (by omega), if_pos (by rw [List.length_map]; omega), rx, if_neg (by subst c4; simp)]) (hnew q)
  ·have hp : 0 < acc.length := List.length_pos_iff.2 c4
   have hk : wrap64 (((acc.map toB).length : Int) - 1) = ((acc.length - 1 : Nat) : Int) := by rw [List.length_map]; unfold wrap64; omega
   have rl := rdm97 acc (acc.length - 1) (by omega)
   generalize hL : acc.getD (acc.length - 1) z110 = L at rl
   have l0 : (toB L).f0 = L.f0 := rfl
   have l1 : (toB L).f1 = L.f1 := rfl
   have l2 : (toB L).f2 = L.f2 := rfl
   have l3 : (toB L).f3 = L.f3 := rfl
   have x0 : (toB x).f0 = x.f0 := rfl
   have x1 : (toB x).f1 = x.f1 := rfl
   have x2 : (toB x).f2 = x.f2 := rfl
   have x3 : (toB x).f3 = x.f3 := rfl
   have hg : gantt_Bar_grows.f L.f0 L.f1 L.f2 L.f3 x.f0 x.f1 x.f2 x.f3 = some (decide (L.f1 = x.f0 ∧ L.f2 = x.f2 ∧ L.f3 = x.f3)) := by
    unfold gantt_Bar_grows.f
    by_cases c5 : L.f1 = x.f0
    ·by_cases c6 : L.f2 = x.f2
     ·rw [if_pos c5, if_pos c6]; simp [c5, c6]; rfl
     ·rw [if_pos c5, if_neg c6]; simp [c6]
    ·rw [if_neg c5]; simp [c5]
   by_cases c : L.f1 = x.f0 ∧ L.f2 = x.f2 ∧ L.f3 = x.f3
   ·have q : addBar acc x = acc.set (acc.length - 1) ⟨L.f0, x.f1, L.f2, L.f3⟩ := by unfold addBar; rw [hL, if_pos ⟨c4, c⟩]
    refine Ev.step (f := fun k => gantt_Bars.l0 k ((addBar acc x).map toB) (ts.map toB) (ts.length : Int) ((i + 1 : Nat) : Int)) (fun k => by
     simp only [gantt_Bars.l0]
     rw [if_pos (by omega), if_pos (by omega), if_pos (by rw [List.length_map]; omega), rx, if_pos (by rw [List.length_map]; omega), hk, if_pos (by omega), if_pos (by rw [List.length_map]; omega), rl, l0, l1, l2, l3, x0, x1, x2, x3, hg, Option.bind_some, decide_eq_true c, if_pos rfl, w1 i (by omega), q, Int.toNat_natCast, List.map_set]
     rfl) h
   ·have q : addBar acc x = acc ++ [x] := by unfold addBar; rw [hL, if_neg (fun q => c q.2)]
    refine Ev.step (f := _) (fun k => by
     simp only [gantt_Bars.l0]
     rw [if_pos (by omega), if_pos (by omega), if_pos (by rw [List.length_map]; omega), rx, if_pos (by rw [List.length_map]; omega), hk, if_pos (by omega), if_pos (by rw [List.length_map]; omega), rl, l0, l1, l2, l3, x0, x1, x2, x3, hg, Option.bind_some, decide_eq_false c, if_neg (by decide)]) (hnew q)
theorem fold_step (es : List S64) : ∀ acc, es.foldl stepBar acc = ((es.filter (fun e => decide (okE e))).map barE).foldl addBar acc := by
 induction es with
 | nil => intro acc; rfl
 | cons e r ih =>
  intro acc
  rw [List.foldl_cons, ih, List.filter_cons]
  by_cases h : okE e
  ·rw [if_pos (decide_eq_true h), List.map_cons, List.foldl_cons, step_yes h]
  ·rw [if_neg (by simpa using h), step_no h]
theorem gbars_f (es : List S64) (hl : es.length ≤ 1000) : ∃ k, gantt_Bars.f k (es.map toE) = some ((barsOf es).map toB) := by
 have h1 := rans_l0 es hl es.length 0 [] (by omega) (by simp)
 simp only [List.drop_zero, List.nil_append] at h1
 have hle := List.length_filter_le (fun e => decide (okE e)) es
 have h2 := gbars_l0 ((es.filter (fun e => decide (okE e))).map barE) (by rw [List.length_map]; omega) _ 0 [] (Nat.zero_add _) (by simp)
 simp only [List.drop_zero, List.map_nil] at h2
 rw [← fold_step] at h2
 have e : ((es.filter (fun e => decide (okE e))).map barE).map toB = (es.filter (fun e => decide (okE e))).map (fun e => toB (barE e)) := by rw [List.map_map]; rfl
 have h3 : Ev (fun k => gantt_Bars.f k (es.map toE)) ((barsOf es).map toB) := by
  refine Ev.congr (f := fun k => (gantt_rans.l0 k [] (es.map toE) (es.length : Int) ((0 : Nat) : Int)).bind fun t148 => gantt_Bars.l0 k ([] : List S97) t148 (t148.length : Int) 0) (fun k => by unfold gantt_Bars.f gantt_rans.f; rw [List.length_map]; rfl) ?_
  refine Ev.bind (f := fun k t148 => gantt_Bars.l0 k ([] : List S97) t148 (t148.length : Int) 0) h1 ?_
  rw [← e, List.length_map]
  exact h2
 exact h3.rounds
theorem bars_f (ts : List S110) (hl : ts.length ≤ 1000) : ∃ k, parcloselaw35_bars.f k (ts.map toB) ts = some true := by
 have h : ∀ (m i : Nat), i + m = ts.length → Ev (fun k => parcloselaw35_bars.l0 k (ts.map toB) ts (i : Int)) true := by
  intro m
  induction m with
  | zero => intro i hi; exact Ev.step (f := fun _ => some true) (fun k => by simp only [parcloselaw35_bars.l0]; rw [if_neg (by rw [List.length_map]; omega)]) (Ev.now _)
  | succ m ih =>
   intro i hi
   have rx := rdm97 ts i (by omega)
   have ry := rd110 ts i
   generalize ts.getD i z110 = x at rx ry
   refine Ev.step (f := fun k => parcloselaw35_bars.l0 k (ts.map toB) ts ((i + 1 : Nat) : Int)) (fun k => by
    simp only [parcloselaw35_bars.l0]
    rw [if_pos (by rw [List.length_map]; omega), if_pos (by omega), if_pos (by omega), rx, ry, if_neg (by simp [toB]), w1 i (by omega)]) (ih (i + 1) (by omega))
 obtain ⟨k, hk⟩ := (h ts.length 0 (by omega)).rounds
 exact ⟨k, by unfold parcloselaw35_bars.f; rw [if_pos (by rw [List.length_map])]; exact hk⟩
theorem barsOf_le (es : List S64) : (barsOf es).length ≤ es.length := by
 have h : ∀ (es : List S64) (acc : List S110), (es.foldl stepBar acc).length ≤ acc.length + es.length := by
  intro es
  induction es with
  | nil => intro acc; simp
  | cons e r ih => intro acc; rw [List.foldl_cons]; have := ih (stepBar acc e); have := stepBar_le acc e; simp; omega
 have h2 := h es []
 simp only [List.length_nil, Nat.zero_add] at h2
 exact h2
theorem owns30_f (l : List S64) (hl : l.length ≤ 65536) : ∃ k, parcloselaw35_owns.f k l = some (l.map toE) := by
 have h : ∀ k l a x, parcloselaw35_owns.l0 k l a x = parcloselaw23_owns.l0 k l a x := by
  intro k
  induction k with
  | zero => intros; rfl
  | succ k ih => intro l a x; simp only [parcloselaw35_owns.l0, parcloselaw23_owns.l0, ih]
 obtain ⟨k, hk⟩ := owns_f l hl
 exact ⟨k, by unfold parcloselaw35_owns.f; rw [h]; exact hk⟩
end Go.Proofs.Ytalimpniimgheaa.Fn
namespace Go.Proofs.Ytalimpniimgheaa.Fn
open Go.RowKit Go.Proofs.YtalimpniimgheaaW.PrintWords Go.Proofs.YtalimpniimgheaaW.PrintLast Go.Proofs.YtalimpniimgheaaW.PrintMore
set_option linter.unusedVariables false
set_option linter.unusedSimpArgs false
attribute [local go_sem] max2_mx min2_mn max_two min_two
section
variable {E E' : Option Addr} {c c' : Nat} (w : World) (es : List S64)
theorem owns30_calls (h : k64.C w E es.length es) (hc : es.length ≤ c) (hl : es.length ≤ 1000) :
  Calls Try.prog 30 #[.slice E es.length c] w fun e w' => ∃ A' c', e = .returned (.slice A' es.length c') ∧ (k65.C w' A' es.length (es.map toE) ∧ es.length ≤ c') ∧ Below w.heap.size w w' := by
 obtain ⟨k, hk⟩ := owns30_f es (by omega)
 refine (parcloselaw35_owns.calls k E c es (es.map toE) w h hc hk).mono ?_
 rintro e w' ⟨v, rfl, ho, hb⟩
 obtain ⟨A', c', rfl⟩ := Kd.R_slice ho
 have h1 := C_ofR ho
 have h2 := (Kd.R_reads' ho).2.1
 rw [List.length_map] at h1 h2 ⊢
 exact ⟨A', c', rfl, ⟨h1, h2⟩, hb⟩
theorem gbars_calls (h : k65.C w E es.length (es.map toE)) (hc : es.length ≤ c) (hl : es.length ≤ 1000) :
  Calls Try.prog 29 #[.slice E es.length c] w fun e w' => ∃ A' c', e = .returned (.slice A' (barsOf es).length c') ∧ (k97.C w' A' (barsOf es).length ((barsOf es).map toB) ∧ (barsOf es).length ≤ c' ∧ ∀ ad, A' = some ad → ∃ g, ad = ⟨g, 0, none⟩) ∧ Below w.heap.size w w' := by
 obtain ⟨k, hk⟩ := gbars_f es hl
 have h0 := gantt_Bars.calls k E c (es.map toE) _ w (by rw [List.length_map]; exact h) (by rw [List.length_map]; exact hc) hk
 rw [List.length_map] at h0
 refine h0.mono ?_
 rintro e w' ⟨v, rfl, ho, hb⟩
 obtain ⟨A', c', rfl⟩ := Kd.R_slice ho
 have h1 := C_ofR ho
 have h3 : ∀ ad, A' = some ad → ∃ g, ad = ⟨g, 0, none⟩ := by rintro ad rfl; exact Kd.R_head ho
 have h2 := (Kd.R_reads' ho).2.1
 rw [List.length_map] at h1 h2 ⊢
 exact ⟨A', c', rfl, ⟨h1, h2, h3⟩, hb⟩
theorem rbars_calls (h : k64.C w E es.length es) (hc : es.length ≤ c) (hl : es.length ≤ 1000) :
  Calls Try.prog 31 #[.slice E es.length c] w fun e w' => ∃ A' c', e = .returned (.slice A' (barsOf es).length c') ∧ (k110.C w' A' (barsOf es).length (barsOf es) ∧ (barsOf es).length ≤ c') ∧ Below w.heap.size w w' := by
 obtain ⟨k, hk⟩ := rbars_f es hl
 refine (parcloseref35_Bars.calls k E c es _ w h hc hk).mono ?_
 rintro e w' ⟨v, rfl, ho, hb⟩
 obtain ⟨A', c', rfl⟩ := Kd.R_slice ho
 exact ⟨A', c', rfl, ⟨C_ofR ho, (Kd.R_reads' ho).2.1⟩, hb⟩
theorem bars_calls (ts : List S110) (h : k97.C w E ts.length (ts.map toB)) (hc : ts.length ≤ c) (h' : k110.C w E' ts.length ts) (hc' : ts.length ≤ c') (hl : ts.length ≤ 1000) :
  Calls Try.prog 28 #[.slice E ts.length c, .slice E' ts.length c'] w fun e w' => e = .returned (.bool true) ∧ Drawn0 w w' := by
 obtain ⟨k, hk⟩ := bars_f ts hl
 have h0 := parcloselaw35_bars.calls k E c (ts.map toB) E' c' ts true w (by rw [List.length_map]; exact h) (by rw [List.length_map]; exact hc) h' hc' hk
 rw [List.length_map] at h0
 exact h0
theorem grow_calls (f t : Int) (h : k65.C w E es.length (es.map toE)) (hl : es.length ≤ 1000) (hw : ∀ e ∈ es, inI e) (hf : -9223372036854775808 ≤ f ∧ f ≤ 9223372036854775807) (ht : -9223372036854775808 ≤ t ∧ t ≤ 9223372036854775807) :
  Calls Try.prog 32 #[.slice E es.length c, .int .i64 f, .int .i64 t] w fun e w' => e = .returned (.string (strOfNums (rrowOf f t es))) ∧ Below w.heap.size w w' := by
 have h0 := row_calls E c (es.map toE) f t w (by rw [List.length_map]; exact h) (by rw [List.length_map]; omega) (fun e he => by
  obtain ⟨x, hx, rfl⟩ := List.mem_map.1 he
  exact hw x hx) hf ht
 rw [List.length_map, rowOf_eq] at h0
 exact h0
theorem rrow_calls (f t : Int) (h : k64.C w E es.length es) (hc : es.length ≤ c) (hl : es.length ≤ 1000) (hw : ∀ e ∈ es, inI e) (ht : -9223372036854775808 ≤ t ∧ t ≤ 9223372036854775807) :
  Calls Try.prog 33 #[.slice E es.length c, .int .i64 f, .int .i64 t] w fun e w' => e = .returned (.string (strOfNums (rrowOf f t es))) ∧ Below w.heap.size w w' := by
 obtain ⟨k, hk⟩ := rrow_f es f t ht hw hl
 exact parcloseref35_Row.calls k E c es f t _ w h hc hk
end
def eK : List S64 := [⟨3, 3, 1, 0⟩, ⟨4, 3, 1, 0⟩, ⟨6, 3, 1, 0⟩]
theorem ran_f : parcloselaw35_ran.f 10 [3, 4, 6] = some (eK.map toE) := by decide +kernel
theorem bars_K : barsOf eK = [⟨3, 5, 1, 0⟩, ⟨6, 7, 1, 0⟩] := by rfl
theorem row_K : strOfNums (rrowOf 2 8 eK) = ⟨#[46, 49, 49, 46, 49, 46]⟩ := by rfl
theorem C_int3 {w : World} {g t : Nat} (x y z : Int) (h : w.heap[g]? = some (.cells #[.int .i64 x, .int .i64 y, .int .i64 z] t (0, 0))) : (Kd.int .i64).C w (some ⟨g, 0, none⟩) [x, y, z].length [x, y, z] := by
 refine ⟨rfl, by simp, fun _ => ⟨_, rfl, ?_⟩⟩
 intro j p hp
 match j with
 | 0 =>
  cases hp
  refine ⟨[.int .i64 x], rfl, rfl, fun i u hu => ?_⟩
  rw [add_at, blk_cell h]
  match i with
  | 0 => exact hu
  | i + 1 => exact absurd hu (by simp)
 | 1 =>
  cases hp
  refine ⟨[.int .i64 y], rfl, rfl, fun i u hu => ?_⟩
  rw [add_at, blk_cell h]
  match i with
  | 0 => exact hu
  | i + 1 => exact absurd hu (by simp)
 | 2 =>
  cases hp
  refine ⟨[.int .i64 z], rfl, rfl, fun i u hu => ?_⟩
  rw [add_at, blk_cell h]
  match i with
  | 0 => exact hu
  | i + 1 => exact absurd hu (by simp)
theorem ran_calls {E : Option Addr} {c : Nat} (w : World) (h : (Kd.int .i64).C w E 3 [3, 4, 6]) (hc : 3 ≤ c) :
  Calls Try.prog 71 #[.slice E 3 c] w fun e w' => ∃ A' c', e = .returned (.slice A' 3 c') ∧ (k65.C w' A' 3 (eK.map toE) ∧ 3 ≤ c') ∧ Below w.heap.size w w' := by
 refine (parcloselaw35_ran.calls 10 E c [3, 4, 6] _ w h hc ran_f).mono ?_
 rintro e w' ⟨v, rfl, ho, hb⟩
 obtain ⟨A', c', rfl⟩ := Kd.R_slice ho
 exact ⟨A', c', rfl, ⟨C_ofR ho, (Kd.R_reads' ho).2.1⟩, hb⟩
theorem eK_in : ∀ e ∈ eK, inI e := by unfold eK inI; simp
set_option maxHeartbeats 4000000 in
set_option maxRecDepth 100000 in
theorem knows27_calls (w : World) : Calls Try.prog 27 #[] w fun e w' => e = .returned (.bool true) ∧ Below w.heap.size w w' := by
 have hu := Try.underlying97
 go_enter Try.func27, Try.ntmps27
 go_wp2_with fail
 refine (ran_calls _ (C_int3 3 4 6 (heap_alloc_new w _)) (Nat.le_refl 3)).mono ?_
 rintro e w1 ⟨A1, c1, rfl, ⟨h1, h1c⟩, hb⟩
 have HB1 := asd (below_then (below_alloc (Below.refl _ w) _) (by simp) hb)
 have G1 := asd (gbars_calls (c := c1) w1 eK h1 h1c (by decide))
 rw [bars_K] at G1
 clear h1 h1c hb
 go_wp2_with fail
 refine G1.out.mono ?_
 rintro e w2 ⟨A2, c2, rfl, ⟨h2, h2c, h2g⟩, hb⟩
 have HB2 := asd (below_step HB1.out hb)
 obtain ⟨ad, rfl, y0, y1, y2, y3⟩ := at_T97 h2 0 (by decide) (by decide)
 obtain ⟨g2, rfl⟩ := h2g _ rfl
 rw [add_plain] at y0 y1 y2 y3
 have z0 : w2.cell? ⟨g2, 0, none⟩ = some (.int .i64 3) := y0
 have z1 : w2.cell? ⟨g2, 1, none⟩ = some (.int .i64 5) := y1
 have z2 : w2.cell? ⟨g2, 2, none⟩ = some (.int .i64 1) := y2
 have z3 : w2.cell? ⟨g2, 3, none⟩ = some (.int .i64 0) := y3
 clear y0 y1 y2 y3 h2 h2c h2g hb G1
 go_wp2_with fail
 refine (ran_calls _ (C_int3 3 4 6 (heap_alloc_new w2 _)) (Nat.le_refl 3)).mono ?_
 rintro e w3 ⟨A3, c3, rfl, ⟨h3, h3c⟩, hb⟩
 have HB3 := asd (below_step HB2.out (below_then (below_alloc (Below.refl _ w2) _) (by simp) hb))
 have G3 := asd (grow_calls (c := c3) w3 eK 2 8 h3 (by decide) eK_in (by decide) (by decide))
 rw [row_K] at G3
 clear h3 h3c hb
 go_wp2_with (first | (go_at_call 32; refine G3.out.mono ?_; rintro e w4 ⟨rfl, hb⟩; have HB4 := asd (below_step HB3.out hb); clear hb))
 go_ret
 exact ⟨rfl, HB4.out⟩
section
variable (A : Option Addr) (c : Nat) (es : List S64) (f t : Int)
set_option maxHeartbeats 4000000 in
set_option maxRecDepth 100000 in
theorem gtells_dark (w : World) (hn : ¬ (es.length ≤ 100)) :
  Calls Try.prog 4 #[.slice A es.length c, .int .i64 f, .int .i64 t] w fun e w' => e = .returned (.bool true) ∧ Below w.heap.size w w' := by
 have d1 : decide (100 < (es.length : Int)) = true := decide_eq_true (by omega)
 clear hn
 go_enter Try.func4, Try.ntmps4
 go_wp2_with (first | (go_at_call 27; refine (knows27_calls _).mono ?_; rintro e w7 ⟨rfl, hb⟩; have HB2 := asd hb; clear hb))
 go_ret
 exact ⟨rfl, HB2.out⟩
set_option maxHeartbeats 8000000 in
set_option maxRecDepth 100000 in
theorem gtells_light (w : World) (h : k64.C w A es.length es) (hc : es.length ≤ c) (hn : es.length ≤ 100) (hw : ∀ e ∈ es, inI e) (hf : -9223372036854775808 ≤ f ∧ f ≤ 9223372036854775807) (ht : -9223372036854775808 ≤ t ∧ t ≤ 9223372036854775807) :
  Calls Try.prog 4 #[.slice A es.length c, .int .i64 f, .int .i64 t] w fun e w' => e = .returned (.bool true) ∧ Below w.heap.size w w' := by
 have HC := asd h
 have HN := asd (And.intro hn hc)
 have HW := asd hw
 have HF := asd (And.intro hf ht)
 have HL := asd (barsOf_le es)
 have d1 : decide (100 < (es.length : Int)) = false := decide_eq_false (by omega)
 clear h hc hn hw hf ht
 go_enter Try.func4, Try.ntmps4
 go_wp2_with fail
 refine (owns30_calls w es HC.out HN.out.2 (by have := HN.out; omega)).mono ?_
 rintro e w1 ⟨A1, c1, rfl, ⟨h1, h1c⟩, hb⟩
 have HB1 := asd hb
 have G1 := asd (gbars_calls (c := c1) w1 es h1 h1c (by have := HN.out; omega))
 clear h1 h1c hb
 go_wp2_with fail
 refine G1.out.mono ?_
 rintro e w2 ⟨A2, c2, rfl, ⟨h2, h2c, _⟩, hb⟩
 have HB2 := asd (below_step HB1.out hb)
 have H2 := asd h2
 have H2c := asd h2c
 have G2 := asd (rbars_calls (c := c) w2 es (Kd.C_below HC.out HB2.out) HN.out.2 (by have := HN.out; omega))
 clear h2 h2c hb
 go_wp2_with fail
 refine G2.out.mono ?_
 rintro e w3 ⟨A3, c3, rfl, ⟨h3, h3c⟩, hb⟩
 have HB3 := asd (below_step HB2.out hb)
 have G3 := asd (bars_calls (c := c2) (c' := c3) w3 (barsOf es) (Kd.C_below H2.out hb) H2c.out h3 h3c (by have := HN.out; have := HL.out; omega))
 clear h3 h3c hb
 go_wp2_with fail
 refine G3.out.mono ?_
 rintro e w4 ⟨rfl, hd⟩
 have HB4 := asd (below_step HB3.out hd.below)
 clear hd
 go_wp2_with fail
 refine (owns30_calls w4 es (Kd.C_below HC.out HB4.out) HN.out.2 (by have := HN.out; omega)).mono ?_
 rintro e w5 ⟨A5, c5, rfl, ⟨h5, h5c⟩, hb⟩
 have HB5 := asd (below_step HB4.out hb)
 have G5 := asd (grow_calls (c := c5) w5 es f t h5 (by have := HN.out; omega) HW.out HF.out.1 HF.out.2)
 clear h5 h5c hb
 generalize hr : strOfNums (rrowOf f t es) = rs at G5
 have HRS := asd hr
 clear hr
 go_wp2_with fail
 refine G5.out.mono ?_
 rintro e w6 ⟨rfl, hb⟩
 have HB6 := asd (below_step HB5.out hb)
 have G6 := asd (rrow_calls (c := c) w6 es f t (Kd.C_below HC.out HB6.out) HN.out.2 (by have := HN.out; omega) HW.out HF.out.2)
 rw [HRS.out] at G6
 clear hb
 go_wp2_with (first | (go_at_call 33; refine G6.out.mono ?_; rintro e w7 ⟨rfl, hb⟩; have HB7 := asd (below_step HB6.out hb); clear hb) | (go_at_call 27; refine (knows27_calls _).mono ?_; rintro e w8 ⟨rfl, hb⟩; have HB8 := asd (below_step HB7.out hb); clear hb))
 go_ret
 exact ⟨rfl, HB8.out⟩
end
end Go.Proofs.Ytalimpniimgheaa.Fn
