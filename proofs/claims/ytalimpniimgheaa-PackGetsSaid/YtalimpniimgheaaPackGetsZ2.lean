/- Part of the proof of PackGets: see the last text. (Words laid by the print, as far as they are named here; walks written by a program of this project; plain laws.) -/
import Derived.Test.YtalimpniimgheaaPackGetsZ1
namespace Go.Proofs.Ytalimpniimgheaa.Fn
open Go.RowKit Go.Proofs.YtalimpniimgheaaW.PrintWords Go.Proofs.YtalimpniimgheaaW.PrintLast Go.Proofs.YtalimpniimgheaaW.PrintMore
attribute [local go_sem] max2_int min2_int max_two min_two max_three min_three max_four min_four
set_option linter.unusedVariables false
set_option linter.unusedSimpArgs false
def bits_Len64.j0 : Nat → Int → Int → Option (Int)
 | 0, _, _ => none
 | k + 1, x0, x2 => if x0 ≥ 65536 then (if (x0 / 65536) ≥ 256 then (if 0 ≤ (((x0 / 65536) / 256) % 256) then (if (((x0 / 65536) / 256) % 256) < 256 then (some (wrap64 ((wrap64 ((wrap64 (x2 + 16)) + 8)) + (wrap64 (bt (⟨#[0, 1, 2, 2, 3, 3, 3, 3, 4, 4, 4, 4, 4, 4, 4, 4, 5, 5, 5, 5, 5, 5, 5, 5, 5, 5, 5, 5, 5, 5, 5, 5, 6, 6, 6, 6, 6, 6, 6, 6, 6, 6, 6, 6, 6, 6, 6, 6, 6, 6, 6, 6, 6, 6, 6, 6, 6, 6, 6, 6, 6, 6, 6, 6, 7, 7, 7, 7, 7, 7, 7, 7, 7, 7, 7, 7, 7, 7, 7, 7, 7, 7, 7, 7, 7, 7, 7, 7, 7, 7, 7, 7, 7, 7, 7, 7, 7, 7, 7, 7, 7, 7, 7, 7, 7, 7, 7, 7, 7, 7, 7, 7, 7, 7, 7, 7, 7, 7, 7, 7, 7, 7, 7, 7, 7, 7, 7, 7, 8, 8, 8, 8, 8, 8, 8, 8, 8, 8, 8, 8, 8, 8, 8, 8, 8, 8, 8, 8, 8, 8, 8, 8, 8, 8, 8, 8, 8, 8, 8, 8, 8, 8, 8, 8, 8, 8, 8, 8, 8, 8, 8, 8, 8, 8, 8, 8, 8, 8, 8, 8, 8, 8, 8, 8, 8, 8, 8, 8, 8, 8, 8, 8, 8, 8, 8, 8, 8, 8, 8, 8, 8, 8, 8, 8, 8, 8, 8, 8, 8, 8, 8, 8, 8, 8, 8, 8, 8, 8, 8, 8, 8, 8, 8, 8, 8, 8, 8, 8, 8, 8, 8, 8, 8, 8, 8, 8, 8, 8, 8, 8, 8, 8, 8, 8, 8, 8, 8, 8, 8, 8, 8, 8, 8, 8, 8, 8]⟩ : ByteArray) (((x0 / 65536) / 256) % 256)))))) else (none)) else (none)) else (if 0 ≤ ((x0 / 65536) % 256) then (if ((x0 / 65536) % 256) < 256 then (some (wrap64 ((wrap64 (x2 + 16)) + (wrap64 (bt (⟨#[0, 1, 2, 2, 3, 3, 3, 3, 4, 4, 4, 4, 4, 4, 4, 4, 5, 5, 5, 5, 5, 5, 5, 5, 5, 5, 5, 5, 5, 5, 5, 5, 6, 6, 6, 6, 6, 6, 6, 6, 6, 6, 6, 6, 6, 6, 6, 6, 6, 6, 6, 6, 6, 6, 6, 6, 6, 6, 6, 6, 6, 6, 6, 6, 7, 7, 7, 7, 7, 7, 7, 7, 7, 7, 7, 7, 7, 7, 7, 7, 7, 7, 7, 7, 7, 7, 7, 7, 7, 7, 7, 7, 7, 7, 7, 7, 7, 7, 7, 7, 7, 7, 7, 7, 7, 7, 7, 7, 7, 7, 7, 7, 7, 7, 7, 7, 7, 7, 7, 7, 7, 7, 7, 7, 7, 7, 7, 7, 8, 8, 8, 8, 8, 8, 8, 8, 8, 8, 8, 8, 8, 8, 8, 8, 8, 8, 8, 8, 8, 8, 8, 8, 8, 8, 8, 8, 8, 8, 8, 8, 8, 8, 8, 8, 8, 8, 8, 8, 8, 8, 8, 8, 8, 8, 8, 8, 8, 8, 8, 8, 8, 8, 8, 8, 8, 8, 8, 8, 8, 8, 8, 8, 8, 8, 8, 8, 8, 8, 8, 8, 8, 8, 8, 8, 8, 8, 8, 8, 8, 8, 8, 8, 8, 8, 8, 8, 8, 8, 8, 8, 8, 8, 8, 8, 8, 8, 8, 8, 8, 8, 8, 8, 8, 8, 8, 8, 8, 8, 8, 8, 8, 8, 8, 8, 8, 8, 8, 8, 8, 8, 8, 8, 8, 8, 8, 8]⟩ : ByteArray) ((x0 / 65536) % 256)))))) else (none)) else (none))) else (if x0 ≥ 256 then (if 0 ≤ ((x0 / 256) % 256) then (if ((x0 / 256) % 256) < 256 then (some (wrap64 ((wrap64 (x2 + 8)) + (wrap64 (bt (⟨#[0, 1, 2, 2, 3, 3, 3, 3, 4, 4, 4, 4, 4, 4, 4, 4, 5, 5, 5, 5, 5, 5, 5, 5, 5, 5, 5, 5, 5, 5, 5, 5, 6, 6, 6, 6, 6, 6, 6, 6, 6, 6, 6, 6, 6, 6, 6, 6, 6, 6, 6, 6, 6, 6, 6, 6, 6, 6, 6, 6, 6, 6, 6, 6, 7, 7, 7, 7, 7, 7, 7, 7, 7, 7, 7, 7, 7, 7, 7, 7, 7, 7, 7, 7, 7, 7, 7, 7, 7, 7, 7, 7, 7, 7, 7, 7, 7, 7, 7, 7, 7, 7, 7, 7, 7, 7, 7, 7, 7, 7, 7, 7, 7, 7, 7, 7, 7, 7, 7, 7, 7, 7, 7, 7, 7, 7, 7, 7, 8, 8, 8, 8, 8, 8, 8, 8, 8, 8, 8, 8, 8, 8, 8, 8, 8, 8, 8, 8, 8, 8, 8, 8, 8, 8, 8, 8, 8, 8, 8, 8, 8, 8, 8, 8, 8, 8, 8, 8, 8, 8, 8, 8, 8, 8, 8, 8, 8, 8, 8, 8, 8, 8, 8, 8, 8, 8, 8, 8, 8, 8, 8, 8, 8, 8, 8, 8, 8, 8, 8, 8, 8, 8, 8, 8, 8, 8, 8, 8, 8, 8, 8, 8, 8, 8, 8, 8, 8, 8, 8, 8, 8, 8, 8, 8, 8, 8, 8, 8, 8, 8, 8, 8, 8, 8, 8, 8, 8, 8, 8, 8, 8, 8, 8, 8, 8, 8, 8, 8, 8, 8, 8, 8, 8, 8, 8, 8]⟩ : ByteArray) ((x0 / 256) % 256)))))) else (none)) else (none)) else (if 0 ≤ ((x0) % 256) then (if ((x0) % 256) < 256 then (some (wrap64 (x2 + (wrap64 (bt (⟨#[0, 1, 2, 2, 3, 3, 3, 3, 4, 4, 4, 4, 4, 4, 4, 4, 5, 5, 5, 5, 5, 5, 5, 5, 5, 5, 5, 5, 5, 5, 5, 5, 6, 6, 6, 6, 6, 6, 6, 6, 6, 6, 6, 6, 6, 6, 6, 6, 6, 6, 6, 6, 6, 6, 6, 6, 6, 6, 6, 6, 6, 6, 6, 6, 7, 7, 7, 7, 7, 7, 7, 7, 7, 7, 7, 7, 7, 7, 7, 7, 7, 7, 7, 7, 7, 7, 7, 7, 7, 7, 7, 7, 7, 7, 7, 7, 7, 7, 7, 7, 7, 7, 7, 7, 7, 7, 7, 7, 7, 7, 7, 7, 7, 7, 7, 7, 7, 7, 7, 7, 7, 7, 7, 7, 7, 7, 7, 7, 8, 8, 8, 8, 8, 8, 8, 8, 8, 8, 8, 8, 8, 8, 8, 8, 8, 8, 8, 8, 8, 8, 8, 8, 8, 8, 8, 8, 8, 8, 8, 8, 8, 8, 8, 8, 8, 8, 8, 8, 8, 8, 8, 8, 8, 8, 8, 8, 8, 8, 8, 8, 8, 8, 8, 8, 8, 8, 8, 8, 8, 8, 8, 8, 8, 8, 8, 8, 8, 8, 8, 8, 8, 8, 8, 8, 8, 8, 8, 8, 8, 8, 8, 8, 8, 8, 8, 8, 8, 8, 8, 8, 8, 8, 8, 8, 8, 8, 8, 8, 8, 8, 8, 8, 8, 8, 8, 8, 8, 8, 8, 8, 8, 8, 8, 8, 8, 8, 8, 8, 8, 8, 8, 8, 8, 8, 8, 8]⟩ : ByteArray) ((x0) % 256)))))) else (none)) else (none)))
def bits_Len64.f (k : Nat) (a0 : Int) : Option (Int) := if a0 ≥ 4294967296 then (bits_Len64.j0 k (a0 / 4294967296) 32) else (bits_Len64.j0 k a0 0)
set_option maxHeartbeats 8000000 in
set_option maxRecDepth 100000 in
theorem bits_Len64.calls (k : Nat) (a0 : Int) (r : Int) (w : World) (h : bits_Len64.f k a0 = some r) :
  Calls Try.prog 126 #[.int .u64 a0] w fun e w' => e = .returned (.int .i64 r) ∧ Drawn0 w w' := by
 have H : (if a0 ≥ 4294967296 then (bits_Len64.j0 k (a0 / 4294967296) 32) else (bits_Len64.j0 k a0 0)) = some r := h
 clear h
 have HC2 := asd H
 clear H
 go_enter Try.func126, Try.ntmps126
 go_upto_if 4 with (fail)
 go_cut [0, 2] (fun v0 v2 wc => ∃ (kq : Nat) (x0_1 : Int) (x2_1 : Int), v0 = .int .u64 x0_1 ∧ v2 = .int .i64 x2_1 ∧ Aside0 (bits_Len64.j0 kq x0_1 x2_1 = some r) ∧ Aside0 (kq ≤ k) ∧ Drawn0 w wc)
 case first =>
  have H := HC2.out
  clear HC2
  by_cases c3 : a0 ≥ 4294967296
  ·rw [if_pos c3] at H
   have c3b0 : decide (4294967296 ≤ a0) = true := decide_eq_true c3
   clear c3
   (first | rw [c3b0] | (simp only [i64_w, i32_w]; rw [c3b0]) | skip)
   have H' := asd H
   clear H
   go_wp2
   go_meet
   case rel => exact ⟨_, (a0 / 4294967296), (32), (by first | rfl | (simp; done) | (simp [*]; done)), (by first | rfl | (simp; done) | (simp [*]; done)), H', ⟨by first | omega | exact Nat.le_refl _⟩, by repeat (first | exact Drawn0.refl _ | apply Drawn0.step)⟩
  ·rw [if_neg c3] at H
   have c3b0 : decide (4294967296 ≤ a0) = false := decide_eq_false c3
   clear c3
   (first | rw [c3b0] | (simp only [i64_w, i32_w]; rw [c3b0]) | skip)
   have H' := asd H
   clear H
   go_wp2
   go_meet
   case rel => exact ⟨_, (a0), (0), (by first | rfl | (simp; done) | (simp [*]; done)), (by first | rfl | (simp; done) | (simp [*]; done)), H', ⟨by first | omega | exact Nat.le_refl _⟩, by repeat (first | exact Drawn0.refl _ | apply Drawn0.step)⟩
 case rest =>
  clear HC2
  try clear c1
  try clear p2
  try clear c3
  try clear c3b0
  obtain ⟨kq, x0_1, x2_1, rfl, rfl, HA, HJ1, ⟨mc1, rfl⟩⟩ := hcut
  cases kq with
  | zero => exact absurd HA.out (by simp [bits_Len64.j0])
  | succ kj1 =>
   have H := HA.out
   clear HA
   simp only [bits_Len64.j0] at H
   by_cases c4 : x0_1 ≥ 65536
   ·rw [if_pos c4] at H
    have c4b0 : decide (65536 ≤ x0_1) = true := decide_eq_true c4
    clear c4
    by_cases c5 : (x0_1 / 65536) ≥ 256
    ·rw [if_pos c5] at H
     have c5b0 : decide (256 ≤ (x0_1 / 65536)) = true := decide_eq_true c5
     clear c5
     obtain ⟨ji6, hji6⟩ : ∃ j_ : Int, (((x0_1 / 65536) / 256) % 256) = j_ := ⟨_, rfl⟩
     replace H : (if 0 ≤ (ji6) then (if (ji6) < 256 then (some (wrap64 ((wrap64 ((wrap64 (x2_1 + 16)) + 8)) + (wrap64 (bt (⟨#[0, 1, 2, 2, 3, 3, 3, 3, 4, 4, 4, 4, 4, 4, 4, 4, 5, 5, 5, 5, 5, 5, 5, 5, 5, 5, 5, 5, 5, 5, 5, 5, 6, 6, 6, 6, 6, 6, 6, 6, 6, 6, 6, 6, 6, 6, 6, 6, 6, 6, 6, 6, 6, 6, 6, 6, 6, 6, 6, 6, 6, 6, 6, 6, 7, 7, 7, 7, 7, 7, 7, 7, 7, 7, 7, 7, 7, 7, 7, 7, 7, 7, 7, 7, 7, 7, 7, 7, 7, 7, 7, 7, 7, 7, 7, 7, 7, 7, 7, 7, 7, 7, 7, 7, 7, 7, 7, 7, 7, 7, 7, 7, 7, 7, 7, 7, 7, 7, 7, 7, 7, 7, 7, 7, 7, 7, 7, 7, 8, 8, 8, 8, 8, 8, 8, 8, 8, 8, 8, 8, 8, 8, 8, 8, 8, 8, 8, 8, 8, 8, 8, 8, 8, 8, 8, 8, 8, 8, 8, 8, 8, 8, 8, 8, 8, 8, 8, 8, 8, 8, 8, 8, 8, 8, 8, 8, 8, 8, 8, 8, 8, 8, 8, 8, 8, 8, 8, 8, 8, 8, 8, 8, 8, 8, 8, 8, 8, 8, 8, 8, 8, 8, 8, 8, 8, 8, 8, 8, 8, 8, 8, 8, 8, 8, 8, 8, 8, 8, 8, 8, 8, 8, 8, 8, 8, 8, 8, 8, 8, 8, 8, 8, 8, 8, 8, 8, 8, 8, 8, 8, 8, 8, 8, 8, 8, 8, 8, 8, 8, 8, 8, 8, 8, 8, 8, 8]⟩ : ByteArray) (ji6)))))) else (none)) else (none)) = some r := by first | (rw [hji6] at H; exact H) | (simp only [hji6] at H ⊢; exact H)
     by_cases c7 : 0 ≤ (ji6)
     ·rw [if_pos c7] at H
      have c7b0 : decide (0 ≤ (ji6)) = true := decide_eq_true c7
      clear c7
      by_cases c8 : (ji6) < 256
      ·rw [if_pos c8] at H
       have c8b0 : decide ((ji6) < 256) = true := decide_eq_true c8
       clear c8
       obtain rfl := Option.some.inj H
       have p9 : 0 ≤ ((ji6) : Int) := of_decide_eq_true (by assumption)
       have q9 : (ji6) < (256 : Int) := of_decide_eq_true (by assumption)
       have hx9 := bt_at (⟨#[0, 1, 2, 2, 3, 3, 3, 3, 4, 4, 4, 4, 4, 4, 4, 4, 5, 5, 5, 5, 5, 5, 5, 5, 5, 5, 5, 5, 5, 5, 5, 5, 6, 6, 6, 6, 6, 6, 6, 6, 6, 6, 6, 6, 6, 6, 6, 6, 6, 6, 6, 6, 6, 6, 6, 6, 6, 6, 6, 6, 6, 6, 6, 6, 7, 7, 7, 7, 7, 7, 7, 7, 7, 7, 7, 7, 7, 7, 7, 7, 7, 7, 7, 7, 7, 7, 7, 7, 7, 7, 7, 7, 7, 7, 7, 7, 7, 7, 7, 7, 7, 7, 7, 7, 7, 7, 7, 7, 7, 7, 7, 7, 7, 7, 7, 7, 7, 7, 7, 7, 7, 7, 7, 7, 7, 7, 7, 7, 8, 8, 8, 8, 8, 8, 8, 8, 8, 8, 8, 8, 8, 8, 8, 8, 8, 8, 8, 8, 8, 8, 8, 8, 8, 8, 8, 8, 8, 8, 8, 8, 8, 8, 8, 8, 8, 8, 8, 8, 8, 8, 8, 8, 8, 8, 8, 8, 8, 8, 8, 8, 8, 8, 8, 8, 8, 8, 8, 8, 8, 8, 8, 8, 8, 8, 8, 8, 8, 8, 8, 8, 8, 8, 8, 8, 8, 8, 8, 8, 8, 8, 8, 8, 8, 8, 8, 8, 8, 8, 8, 8, 8, 8, 8, 8, 8, 8, 8, 8, 8, 8, 8, 8, 8, 8, 8, 8, 8, 8, 8, 8, 8, 8, 8, 8, 8, 8, 8, 8, 8, 8, 8, 8, 8, 8, 8, 8]⟩ : ByteArray) (ji6)
       replace p9 := eq_true p9
       replace q9 := eq_true q9
       go_wp2
       go_ret
       exact ⟨by first | rfl | (simp; done) | (simp only [← hji6] <;> (first | rfl | simp)) | (simp [*]; done), by repeat (first | exact Drawn0.refl _ | apply Drawn0.step)⟩
      ·rw [if_neg c8] at H
       exact absurd H (by simp)
     ·rw [if_neg c7] at H
      exact absurd H (by simp)
    ·rw [if_neg c5] at H
     have c5b0 : decide (256 ≤ (x0_1 / 65536)) = false := decide_eq_false c5
     clear c5
     obtain ⟨ji10, hji10⟩ : ∃ j_ : Int, ((x0_1 / 65536) % 256) = j_ := ⟨_, rfl⟩
     replace H : (if 0 ≤ (ji10) then (if (ji10) < 256 then (some (wrap64 ((wrap64 (x2_1 + 16)) + (wrap64 (bt (⟨#[0, 1, 2, 2, 3, 3, 3, 3, 4, 4, 4, 4, 4, 4, 4, 4, 5, 5, 5, 5, 5, 5, 5, 5, 5, 5, 5, 5, 5, 5, 5, 5, 6, 6, 6, 6, 6, 6, 6, 6, 6, 6, 6, 6, 6, 6, 6, 6, 6, 6, 6, 6, 6, 6, 6, 6, 6, 6, 6, 6, 6, 6, 6, 6, 7, 7, 7, 7, 7, 7, 7, 7, 7, 7, 7, 7, 7, 7, 7, 7, 7, 7, 7, 7, 7, 7, 7, 7, 7, 7, 7, 7, 7, 7, 7, 7, 7, 7, 7, 7, 7, 7, 7, 7, 7, 7, 7, 7, 7, 7, 7, 7, 7, 7, 7, 7, 7, 7, 7, 7, 7, 7, 7, 7, 7, 7, 7, 7, 8, 8, 8, 8, 8, 8, 8, 8, 8, 8, 8, 8, 8, 8, 8, 8, 8, 8, 8, 8, 8, 8, 8, 8, 8, 8, 8, 8, 8, 8, 8, 8, 8, 8, 8, 8, 8, 8, 8, 8, 8, 8, 8, 8, 8, 8, 8, 8, 8, 8, 8, 8, 8, 8, 8, 8, 8, 8, 8, 8, 8, 8, 8, 8, 8, 8, 8, 8, 8, 8, 8, 8, 8, 8, 8, 8, 8, 8, 8, 8, 8, 8, 8, 8, 8, 8, 8, 8, 8, 8, 8, 8, 8, 8, 8, 8, 8, 8, 8, 8, 8, 8, 8, 8, 8, 8, 8, 8, 8, 8, 8, 8, 8, 8, 8, 8, 8, 8, 8, 8, 8, 8, 8, 8, 8, 8, 8, 8]⟩ : ByteArray) (ji10)))))) else (none)) else (none)) = some r := by first | (rw [hji10] at H; exact H) | (simp only [hji10] at H ⊢; exact H)
     by_cases c11 : 0 ≤ (ji10)
     ·rw [if_pos c11] at H
      have c11b0 : decide (0 ≤ (ji10)) = true := decide_eq_true c11
      clear c11
      by_cases c12 : (ji10) < 256
      ·rw [if_pos c12] at H
       have c12b0 : decide ((ji10) < 256) = true := decide_eq_true c12
       clear c12
       obtain rfl := Option.some.inj H
       have p13 : 0 ≤ ((ji10) : Int) := of_decide_eq_true (by assumption)
       have q13 : (ji10) < (256 : Int) := of_decide_eq_true (by assumption)
       have hx13 := bt_at (⟨#[0, 1, 2, 2, 3, 3, 3, 3, 4, 4, 4, 4, 4, 4, 4, 4, 5, 5, 5, 5, 5, 5, 5, 5, 5, 5, 5, 5, 5, 5, 5, 5, 6, 6, 6, 6, 6, 6, 6, 6, 6, 6, 6, 6, 6, 6, 6, 6, 6, 6, 6, 6, 6, 6, 6, 6, 6, 6, 6, 6, 6, 6, 6, 6, 7, 7, 7, 7, 7, 7, 7, 7, 7, 7, 7, 7, 7, 7, 7, 7, 7, 7, 7, 7, 7, 7, 7, 7, 7, 7, 7, 7, 7, 7, 7, 7, 7, 7, 7, 7, 7, 7, 7, 7, 7, 7, 7, 7, 7, 7, 7, 7, 7, 7, 7, 7, 7, 7, 7, 7, 7, 7, 7, 7, 7, 7, 7, 7, 8, 8, 8, 8, 8, 8, 8, 8, 8, 8, 8, 8, 8, 8, 8, 8, 8, 8, 8, 8, 8, 8, 8, 8, 8, 8, 8, 8, 8, 8, 8, 8, 8, 8, 8, 8, 8, 8, 8, 8, 8, 8, 8, 8, 8, 8, 8, 8, 8, 8, 8, 8, 8, 8, 8, 8, 8, 8, 8, 8, 8, 8, 8, 8, 8, 8, 8, 8, 8, 8, 8, 8, 8, 8, 8, 8, 8, 8, 8, 8, 8, 8, 8, 8, 8, 8, 8, 8, 8, 8, 8, 8, 8, 8, 8, 8, 8, 8, 8, 8, 8, 8, 8, 8, 8, 8, 8, 8, 8, 8, 8, 8, 8, 8, 8, 8, 8, 8, 8, 8, 8, 8, 8, 8, 8, 8, 8, 8]⟩ : ByteArray) (ji10)
       replace p13 := eq_true p13
       replace q13 := eq_true q13
       go_wp2
       go_ret
       exact ⟨by first | rfl | (simp; done) | (simp only [← hji10] <;> (first | rfl | simp)) | (simp [*]; done), by repeat (first | exact Drawn0.refl _ | apply Drawn0.step)⟩
      ·rw [if_neg c12] at H
       exact absurd H (by simp)
     ·rw [if_neg c11] at H
      exact absurd H (by simp)
   ·rw [if_neg c4] at H
    have c4b0 : decide (65536 ≤ x0_1) = false := decide_eq_false c4
    clear c4
    by_cases c14 : x0_1 ≥ 256
    ·rw [if_pos c14] at H
     have c14b0 : decide (256 ≤ x0_1) = true := decide_eq_true c14
     clear c14
     obtain ⟨ji15, hji15⟩ : ∃ j_ : Int, ((x0_1 / 256) % 256) = j_ := ⟨_, rfl⟩
     replace H : (if 0 ≤ (ji15) then (if (ji15) < 256 then (some (wrap64 ((wrap64 (x2_1 + 8)) + (wrap64 (bt (⟨#[0, 1, 2, 2, 3, 3, 3, 3, 4, 4, 4, 4, 4, 4, 4, 4, 5, 5, 5, 5, 5, 5, 5, 5, 5, 5, 5, 5, 5, 5, 5, 5, 6, 6, 6, 6, 6, 6, 6, 6, 6, 6, 6, 6, 6, 6, 6, 6, 6, 6, 6, 6, 6, 6, 6, 6, 6, 6, 6, 6, 6, 6, 6, 6, 7, 7, 7, 7, 7, 7, 7, 7, 7, 7, 7, 7, 7, 7, 7, 7, 7, 7, 7, 7, 7, 7, 7, 7, 7, 7, 7, 7, 7, 7, 7, 7, 7, 7, 7, 7, 7, 7, 7, 7, 7, 7, 7, 7, 7, 7, 7, 7, 7, 7, 7, 7, 7, 7, 7, 7, 7, 7, 7, 7, 7, 7, 7, 7, 8, 8, 8, 8, 8, 8, 8, 8, 8, 8, 8, 8, 8, 8, 8, 8, 8, 8, 8, 8, 8, 8, 8, 8, 8, 8, 8, 8, 8, 8, 8, 8, 8, 8, 8, 8, 8, 8, 8, 8, 8, 8, 8, 8, 8, 8, 8, 8, 8, 8, 8, 8, 8, 8, 8, 8, 8, 8, 8, 8, 8, 8, 8, 8, 8, 8, 8, 8, 8, 8, 8, 8, 8, 8, 8, 8, 8, 8, 8, 8, 8, 8, 8, 8, 8, 8, 8, 8, 8, 8, 8, 8, 8, 8, 8, 8, 8, 8, 8, 8, 8, 8, 8, 8, 8, 8, 8, 8, 8, 8, 8, 8, 8, 8, 8, 8, 8, 8, 8, 8, 8, 8, 8, 8, 8, 8, 8, 8]⟩ : ByteArray) (ji15)))))) else (none)) else (none)) = some r := by first | (rw [hji15] at H; exact H) | (simp only [hji15] at H ⊢; exact H)
     by_cases c16 : 0 ≤ (ji15)
     ·rw [if_pos c16] at H
      have c16b0 : decide (0 ≤ (ji15)) = true := decide_eq_true c16
      clear c16
      by_cases c17 : (ji15) < 256
      ·rw [if_pos c17] at H
       have c17b0 : decide ((ji15) < 256) = true := decide_eq_true c17
       clear c17
       obtain rfl := Option.some.inj H
       have p18 : 0 ≤ ((ji15) : Int) := of_decide_eq_true (by assumption)
       have q18 : (ji15) < (256 : Int) := of_decide_eq_true (by assumption)
       have hx18 := bt_at (⟨#[0, 1, 2, 2, 3, 3, 3, 3, 4, 4, 4, 4, 4, 4, 4, 4, 5, 5, 5, 5, 5, 5, 5, 5, 5, 5, 5, 5, 5, 5, 5, 5, 6, 6, 6, 6, 6, 6, 6, 6, 6, 6, 6, 6, 6, 6, 6, 6, 6, 6, 6, 6, 6, 6, 6, 6, 6, 6, 6, 6, 6, 6, 6, 6, 7, 7, 7, 7, 7, 7, 7, 7, 7, 7, 7, 7, 7, 7, 7, 7, 7, 7, 7, 7, 7, 7, 7, 7, 7, 7, 7, 7, 7, 7, 7, 7, 7, 7, 7, 7, 7, 7, 7, 7, 7, 7, 7, 7, 7, 7, 7, 7, 7, 7, 7, 7, 7, 7, 7, 7, 7, 7, 7, 7, 7, 7, 7, 7, 8, 8, 8, 8, 8, 8, 8, 8, 8, 8, 8, 8, 8, 8, 8, 8, 8, 8, 8, 8, 8, 8, 8, 8, 8, 8, 8, 8, 8, 8, 8, 8, 8, 8, 8, 8, 8, 8, 8, 8, 8, 8, 8, 8, 8, 8, 8, 8, 8, 8, 8, 8, 8, 8, 8, 8, 8, 8, 8, 8, 8, 8, 8, 8, 8, 8, 8, 8, 8, 8, 8, 8, 8, 8, 8, 8, 8, 8, 8, 8, 8, 8, 8, 8, 8, 8, 8, 8, 8, 8, 8, 8, 8, 8, 8, 8, 8, 8, 8, 8, 8, 8, 8, 8, 8, 8, 8, 8, 8, 8, 8, 8, 8, 8, 8, 8, 8, 8, 8, 8, 8, 8, 8, 8, 8, 8, 8, 8]⟩ : ByteArray) (ji15)
       replace p18 := eq_true p18
       replace q18 := eq_true q18
       go_wp2
       go_ret
       exact ⟨by first | rfl | (simp; done) | (simp only [← hji15] <;> (first | rfl | simp)) | (simp [*]; done), by repeat (first | exact Drawn0.refl _ | apply Drawn0.step)⟩
      ·rw [if_neg c17] at H
       exact absurd H (by simp)
     ·rw [if_neg c16] at H
      exact absurd H (by simp)
    ·rw [if_neg c14] at H
     have c14b0 : decide (256 ≤ x0_1) = false := decide_eq_false c14
     clear c14
     obtain ⟨ji19, hji19⟩ : ∃ j_ : Int, ((x0_1) % 256) = j_ := ⟨_, rfl⟩
     replace H : (if 0 ≤ (ji19) then (if (ji19) < 256 then (some (wrap64 (x2_1 + (wrap64 (bt (⟨#[0, 1, 2, 2, 3, 3, 3, 3, 4, 4, 4, 4, 4, 4, 4, 4, 5, 5, 5, 5, 5, 5, 5, 5, 5, 5, 5, 5, 5, 5, 5, 5, 6, 6, 6, 6, 6, 6, 6, 6, 6, 6, 6, 6, 6, 6, 6, 6, 6, 6, 6, 6, 6, 6, 6, 6, 6, 6, 6, 6, 6, 6, 6, 6, 7, 7, 7, 7, 7, 7, 7, 7, 7, 7, 7, 7, 7, 7, 7, 7, 7, 7, 7, 7, 7, 7, 7, 7, 7, 7, 7, 7, 7, 7, 7, 7, 7, 7, 7, 7, 7, 7, 7, 7, 7, 7, 7, 7, 7, 7, 7, 7, 7, 7, 7, 7, 7, 7, 7, 7, 7, 7, 7, 7, 7, 7, 7, 7, 8, 8, 8, 8, 8, 8, 8, 8, 8, 8, 8, 8, 8, 8, 8, 8, 8, 8, 8, 8, 8, 8, 8, 8, 8, 8, 8, 8, 8, 8, 8, 8, 8, 8, 8, 8, 8, 8, 8, 8, 8, 8, 8, 8, 8, 8, 8, 8, 8, 8, 8, 8, 8, 8, 8, 8, 8, 8, 8, 8, 8, 8, 8, 8, 8, 8, 8, 8, 8, 8, 8, 8, 8, 8, 8, 8, 8, 8, 8, 8, 8, 8, 8, 8, 8, 8, 8, 8, 8, 8, 8, 8, 8, 8, 8, 8, 8, 8, 8, 8, 8, 8, 8, 8, 8, 8, 8, 8, 8, 8, 8, 8, 8, 8, 8, 8, 8, 8, 8, 8, 8, 8, 8, 8, 8, 8, 8, 8]⟩ : ByteArray) (ji19)))))) else (none)) else (none)) = some r := by first | (rw [hji19] at H; exact H) | (simp only [hji19] at H ⊢; exact H)
     by_cases c20 : 0 ≤ (ji19)
     ·rw [if_pos c20] at H
      have c20b0 : decide (0 ≤ (ji19)) = true := decide_eq_true c20
      clear c20
      by_cases c21 : (ji19) < 256
      ·rw [if_pos c21] at H
       have c21b0 : decide ((ji19) < 256) = true := decide_eq_true c21
       clear c21
       obtain rfl := Option.some.inj H
       have p22 : 0 ≤ ((ji19) : Int) := of_decide_eq_true (by assumption)
       have q22 : (ji19) < (256 : Int) := of_decide_eq_true (by assumption)
       have hx22 := bt_at (⟨#[0, 1, 2, 2, 3, 3, 3, 3, 4, 4, 4, 4, 4, 4, 4, 4, 5, 5, 5, 5, 5, 5, 5, 5, 5, 5, 5, 5, 5, 5, 5, 5, 6, 6, 6, 6, 6, 6, 6, 6, 6, 6, 6, 6, 6, 6, 6, 6, 6, 6, 6, 6, 6, 6, 6, 6, 6, 6, 6, 6, 6, 6, 6, 6, 7, 7, 7, 7, 7, 7, 7, 7, 7, 7, 7, 7, 7, 7, 7, 7, 7, 7, 7, 7, 7, 7, 7, 7, 7, 7, 7, 7, 7, 7, 7, 7, 7, 7, 7, 7, 7, 7, 7, 7, 7, 7, 7, 7, 7, 7, 7, 7, 7, 7, 7, 7, 7, 7, 7, 7, 7, 7, 7, 7, 7, 7, 7, 7, 8, 8, 8, 8, 8, 8, 8, 8, 8, 8, 8, 8, 8, 8, 8, 8, 8, 8, 8, 8, 8, 8, 8, 8, 8, 8, 8, 8, 8, 8, 8, 8, 8, 8, 8, 8, 8, 8, 8, 8, 8, 8, 8, 8, 8, 8, 8, 8, 8, 8, 8, 8, 8, 8, 8, 8, 8, 8, 8, 8, 8, 8, 8, 8, 8, 8, 8, 8, 8, 8, 8, 8, 8, 8, 8, 8, 8, 8, 8, 8, 8, 8, 8, 8, 8, 8, 8, 8, 8, 8, 8, 8, 8, 8, 8, 8, 8, 8, 8, 8, 8, 8, 8, 8, 8, 8, 8, 8, 8, 8, 8, 8, 8, 8, 8, 8, 8, 8, 8, 8, 8, 8, 8, 8, 8, 8, 8, 8]⟩ : ByteArray) (ji19)
       replace p22 := eq_true p22
       replace q22 := eq_true q22
       go_wp2
       go_ret
       exact ⟨by first | rfl | (simp; done) | (simp only [← hji19] <;> (first | rfl | simp)) | (simp [*]; done), by repeat (first | exact Drawn0.refl _ | apply Drawn0.step)⟩
      ·rw [if_neg c21] at H
       exact absurd H (by simp)
     ·rw [if_neg c20] at H
      exact absurd H (by simp)
end Go.Proofs.Ytalimpniimgheaa.Fn
namespace Go.Proofs.Ytalimpniimgheaa.Fn
open Go.RowKit Go.Proofs.YtalimpniimgheaaW.PrintWords Go.Proofs.YtalimpniimgheaaW.PrintLast Go.Proofs.YtalimpniimgheaaW.PrintMore
attribute [local go_sem] max2_int min2_int max_two min_two max_three min_three max_four min_four
set_option linter.unusedVariables false
set_option linter.unusedSimpArgs false
def bits_Len.f (k : Nat) (a0 : Int) : Option (Int) := (bits_Len64.f k a0).bind fun t360 => (some t360)
set_option maxHeartbeats 8000000 in
set_option maxRecDepth 100000 in
theorem bits_Len.calls (k : Nat) (a0 : Int) (r : Int) (w : World) (h : bits_Len.f k a0 = some r) :
  Calls Try.prog 94 #[.int .u64 a0] w fun e w' => e = .returned (.int .i64 r) ∧ Drawn0 w w' := by
 have H : ((bits_Len64.f k a0).bind fun t360 => (some t360)) = some r := h
 clear h
 replace H := Option.bind_eq_some_iff.mp H
 obtain ⟨t360, A20, H⟩ := H
 replace H : (some t360) = some r := H
 have A2 := asd A20
 clear A20
 obtain rfl := Option.some.inj H
 go_enter Try.func94, Try.ntmps94
 go_wp2_with (first | ((with_reducible refine gate_callee (f := 126) rfl ?_); refine goesL_ (some 7) rfl rfl Try.func126 (by kernel_rfl) rfl #[.int .u64 a0] rfl (by (try simp only [List.map_toArray, List.map_cons, List.map_nil]); first | done | rfl | (simp only [List.length_drop, List.length_take]; rfl)) ?_; (with_reducible refine (bits_Len64.calls k a0 t360 _ A2.out).mono ?_); rintro e w' ⟨rfl, ⟨nd, rfl⟩⟩; refine ⟨_, rfl, ?_⟩))
 go_ret
 exact ⟨by first | rfl | (simp; done) | (simp [*]; done), by repeat (first | exact Drawn0.refl _ | apply Drawn0.step)⟩
end Go.Proofs.Ytalimpniimgheaa.Fn
namespace Go.Proofs.Ytalimpniimgheaa.Fn
open Go.RowKit Go.Proofs.YtalimpniimgheaaW.PrintWords Go.Proofs.YtalimpniimgheaaW.PrintLast Go.Proofs.YtalimpniimgheaaW.PrintMore
attribute [local go_sem] max2_int min2_int max_two min_two max_three min_three max_four min_four
set_option linter.unusedVariables false
set_option linter.unusedSimpArgs false
def pack_Size.f (k : Nat) (a0 : Int) : Option (Int) := if a0 < 0 then (some 0) else ((bits_Len.f k (IntKind.u64.wrap (a0))).bind fun t361 => (some (mx 1 (wrap64 (Int.tdiv (wrap64 ((wrap64 (t361 + 7)) - 1)) 7)))))
set_option maxHeartbeats 8000000 in
set_option maxRecDepth 100000 in
theorem pack_Size.calls (k : Nat) (a0 : Int) (r : Int) (w : World) (h : pack_Size.f k a0 = some r) :
  Calls Try.prog 57 #[.int .i64 a0] w fun e w' => e = .returned (.int .i64 r) ∧ Below w.heap.size w w' := by
 have HB := asd (Below.refl w.heap.size w)
 have H : (if a0 < 0 then (some 0) else ((bits_Len.f k (IntKind.u64.wrap (a0))).bind fun t361 => (some (mx 1 (wrap64 (Int.tdiv (wrap64 ((wrap64 (t361 + 7)) - 1)) 7)))))) = some r := h
 clear h
 by_cases c2 : a0 < 0
 ·rw [if_pos c2] at H
  have c2b0 : decide (a0 < 0) = true := decide_eq_true c2
  clear c2
  obtain rfl := Option.some.inj H
  go_enter Try.func57, Try.ntmps57
  go_wp2
  go_ret
  exact ⟨by first | rfl | (simp [*] <;> rfl), by repeat (first | (with_reducible first | exact HB.out | apply wa | apply wn | apply wd) | exact HB.out)⟩
 ·rw [if_neg c2] at H
  have c2b0 : decide (a0 < 0) = false := decide_eq_false c2
  clear c2
  replace H := Option.bind_eq_some_iff.mp H
  obtain ⟨t361, A30, H⟩ := H
  replace H : (some (mx 1 (wrap64 (Int.tdiv (wrap64 ((wrap64 (t361 + 7)) - 1)) 7)))) = some r := H
  have A3 := asd A30
  clear A30
  obtain ⟨ji4, hji4⟩ : ∃ j_ : Int, (mx 1 (wrap64 (Int.tdiv (wrap64 ((wrap64 (t361 + 7)) - 1)) 7))) = j_ := ⟨_, rfl⟩
  replace H : (some ji4) = some r := by first | (rw [hji4] at H; exact H) | (simp only [hji4] at H ⊢; exact H)
  (try rw [hji4] at A3)
  (try (have hji4l : 1 ≤ ji4 := by (rw [← hji4]; unfold mx; (repeat' split) <;> omega)))
  (try (have hji4m : 0 ≤ ji4 := by omega))
  have hji4_ : (if 1 < (wrap64 (Int.tdiv (wrap64 ((wrap64 (t361 + 7)) - 1)) 7)) then (wrap64 (Int.tdiv (wrap64 ((wrap64 (t361 + 7)) - 1)) 7)) else 1) = ji4 := hji4
  obtain rfl := Option.some.inj H
  go_enter Try.func57, Try.ntmps57
  go_wp2_with (first | ((with_reducible refine gate_callee (f := 94) rfl ?_); refine goesL_ (some 7) rfl rfl Try.func94 (by kernel_rfl) rfl #[.int .u64 (IntKind.u64.wrap (a0))] rfl (by (try simp only [List.map_toArray, List.map_cons, List.map_nil]); first | done | rfl | (simp only [List.length_drop, List.length_take]; rfl)) ?_; (with_reducible refine (bits_Len.calls k (IntKind.u64.wrap (a0)) t361 _ A3.out).mono ?_); rintro e w' ⟨rfl, ⟨nd, rfl⟩⟩; refine ⟨_, rfl, ?_⟩))
  go_ret
  exact ⟨by first | rfl | (simp [errW_none, errW_some] <;> rfl) | (simp only [← hji4]; first | rfl | (simp [errW_none, errW_some] <;> rfl)) | (simp [*, errW_none, errW_some] <;> rfl), by repeat (first | (with_reducible first | exact HB.out | apply wa | apply wn | apply wd) | exact HB.out)⟩
end Go.Proofs.Ytalimpniimgheaa.Fn
namespace Go.Proofs.Ytalimpniimgheaa.Fn
open Go.RowKit Go.Proofs.YtalimpniimgheaaW.PrintWords Go.Proofs.YtalimpniimgheaaW.PrintLast Go.Proofs.YtalimpniimgheaaW.PrintMore
attribute [local go_sem] max2_int min2_int max_two min_two max_three min_three max_four min_four
set_option linter.unusedVariables false
set_option linter.unusedSimpArgs false
def parcloseref36_Size.l0 : Nat → Int → Int → Option (Int)
 | 0, _, _ => none
 | k + 1, x0, x3 => if x0 > 127 then (parcloseref36_Size.l0 k (wrap64 (Int.tdiv x0 128)) (wrap64 (x3 + 1))) else (some x3)
def parcloseref36_Size.f (k : Nat) (a0 : Int) : Option (Int) := if a0 < 0 then (some 0) else (parcloseref36_Size.l0 k a0 1)
end Go.Proofs.Ytalimpniimgheaa.Fn
namespace Go.Proofs.Ytalimpniimgheaa.Fn
open Go.RowKit Go.Proofs.YtalimpniimgheaaW.PrintWords Go.Proofs.YtalimpniimgheaaW.PrintLast Go.Proofs.YtalimpniimgheaaW.PrintMore
attribute [local go_sem] max2_int min2_int max_two min_two max_three min_three max_four min_four
set_option linter.unusedVariables false
set_option linter.unusedSimpArgs false
def parcloseref36_Sum.l0 : Nat → List Int → Int → Int → Option (Int)
 | 0, _, _, _ => none
 | k + 1, x0, x3, x4 => if x4 < (x0.length : Int) then (if 0 ≤ x4 then (parcloseref36_Sum.l0 k x0 (Int.tmod (wrap64 ((wrap64 ((wrap64 (31 * x3)) + (wrap64 (rd x0 x4)))) + 7)) 65521) (wrap64 (x4 + 1))) else (none)) else (some x3)
def parcloseref36_Sum.f (k : Nat) (l0 : List Int) : Option (Int) := parcloseref36_Sum.l0 k l0 0 0
set_option maxHeartbeats 8000000 in
set_option maxRecDepth 100000 in
theorem parcloseref36_Sum.calls (k : Nat) (A0 : Option Addr) (c0 : Nat) (l0 : List Int) (r : Int) (w : World) (hr0 : Kd.C (Kd.int .u8) w A0 l0.length l0) (hc0 : l0.length ≤ c0) (h : parcloseref36_Sum.f k l0 = some r) :
  Calls Try.prog 60 #[.slice A0 l0.length c0] w fun e w' => e = .returned (.int .i64 r) ∧ Drawn0 w w' := by
 have HR0 := asd hr0
 have HC0 := asd hc0
 clear hr0 hc0
 have H : (parcloseref36_Sum.l0 k l0 0 0) = some r := h
 clear h
 have H' := asd H
 clear H
 go_enter Try.func60, Try.ntmps60
 go_wp2
 go_loopg [3, 4] k (fun kq v3 v4 w' => ∃ (x3_1 : Int) (x4_1 : Int), v3 = .int .i64 x3_1 ∧ v4 = .int .i64 x4_1 ∧ Aside0 (parcloseref36_Sum.l0 kq l0 x3_1 x4_1 = some r) ∧ Aside0 (kq ≤ k) ∧ Drawn0 w w')
 case atStart => exact ⟨(0), (0), (by first | rfl | (simp; done) | (simp [*]; done)), (by first | rfl | (simp; done) | (simp [*]; done)), H', ⟨Nat.le_refl _⟩, by repeat (first | exact Drawn0.refl _ | apply Drawn0.step)⟩
 case round =>
  clear H'
  obtain ⟨x3_1, x4_1, rfl, rfl, HA, HK1, ⟨m1, rfl⟩⟩ := hrel
  cases gk with
  | zero => exact absurd HA.out (by simp [parcloseref36_Sum.l0])
  | succ k1 =>
   have H := HA.out
   clear HA
   simp only [parcloseref36_Sum.l0] at H
   by_cases c2 : x4_1 < (l0.length : Int)
   ·rw [if_pos c2] at H
    have c2b0 : decide (x4_1 < (l0.length : Int)) = true := decide_eq_true c2
    clear c2
    by_cases c3 : 0 ≤ x4_1
    ·rw [if_pos c3] at H
     have c3b0 : decide (0 ≤ x4_1) = true := decide_eq_true c3
     clear c3
     have H' := asd H
     clear H
     have p369 : 0 ≤ (x4_1 : Int) := of_decide_eq_true (by assumption)
     have q369 : x4_1 < (l0.length : Int) := of_decide_eq_true (by assumption)
     obtain ⟨ad369, e369, hx369_0⟩ := Kd.at_int HR0.out x4_1 p369 q369
     cases e369
     replace p369 := eq_true p369
     replace q369 := eq_true q369
     go_wp2
     go_roundg k1
     case measure => have := HK1.out; omega
     case rel => exact ⟨(Int.tmod (wrap64 ((wrap64 ((wrap64 (31 * x3_1)) + (wrap64 (rd l0 x4_1)))) + 7)) 65521), (wrap64 (x4_1 + 1)), (by first | rfl | (simp; done) | (simp [*]; done)), (by first | rfl | (simp; done) | (simp [*]; done)), H', ⟨by have := HK1.out; omega⟩, by repeat (first | exact Drawn0.refl _ | apply Drawn0.step)⟩
    ·rw [if_neg c3] at H
     exact absurd H (by simp)
   ·rw [if_neg c2] at H
    have c2b0 : decide (x4_1 < (l0.length : Int)) = false := decide_eq_false c2
    clear c2
    obtain rfl := Option.some.inj H
    go_wp2
    go_ret
    exact ⟨by first | rfl | (simp; done) | (simp [*]; done), by repeat (first | exact Drawn0.refl _ | apply Drawn0.step)⟩
end Go.Proofs.Ytalimpniimgheaa.Fn
namespace Go.Proofs.Ytalimpniimgheaa.Fn
open Go.RowKit Go.Proofs.YtalimpniimgheaaW.PrintWords Go.Proofs.YtalimpniimgheaaW.PrintLast Go.Proofs.YtalimpniimgheaaW.PrintMore
attribute [local go_sem] max2_int min2_int max_two min_two max_three min_three max_four min_four
set_option linter.unusedVariables false
set_option linter.unusedSimpArgs false
def parcloseref02_power.l0 : Nat → Int → Int → Int → Option (Int)
 | 0, _, _, _ => none
 | k + 1, x0, x3, x4 => if x4 < x0 then (if x4 < 7 then (parcloseref02_power.l0 k x0 (wrap64 (x3 * 256)) (wrap64 (x4 + 1))) else (some x3)) else (some x3)
def parcloseref02_power.f (k : Nat) (a0 : Int) : Option (Int) := parcloseref02_power.l0 k a0 1 0
end Go.Proofs.Ytalimpniimgheaa.Fn
namespace Go.Proofs.Ytalimpniimgheaa.Fn
open Go.RowKit Go.Proofs.YtalimpniimgheaaW.PrintWords Go.Proofs.YtalimpniimgheaaW.PrintLast Go.Proofs.YtalimpniimgheaaW.PrintMore
attribute [local go_sem] max2_int min2_int max_two min_two max_three min_three max_four min_four
set_option linter.unusedVariables false
set_option linter.unusedSimpArgs false
def parcloseref02_Number.l0 : Nat → Int → List Int → Int → Option (List Int)
 | 0, _, _, _ => none
 | k + 1, x1, x5, x6 => if x6 ≥ 0 then ((parcloseref02_power.f k x6).bind fun t370 => (if t370 = 0 then (none) else (if x5.length < 140737488355328 then (parcloseref02_Number.l0 k x1 (x5 ++ [(Int.tmod (wrap64 (Int.tdiv x1 t370)) 256) % 256]) (wrap64 (x6 - 1))) else (none)))) else (some x5)
def parcloseref02_Number.f (k : Nat) (a0 : Int) (a1 : Int) : Option (List Int) := parcloseref02_Number.l0 k a1 ([] : List Int) (wrap64 (a0 - 1))
end Go.Proofs.Ytalimpniimgheaa.Fn
namespace Go.Proofs.Ytalimpniimgheaa.Fn
open Go.RowKit Go.Proofs.YtalimpniimgheaaW.PrintWords Go.Proofs.YtalimpniimgheaaW.PrintLast Go.Proofs.YtalimpniimgheaaW.PrintMore
set_option linter.unusedVariables false
set_option linter.unusedSimpArgs false
def lenTab : ByteArray := (⟨#[0, 1, 2, 2, 3, 3, 3, 3, 4, 4, 4, 4, 4, 4, 4, 4, 5, 5, 5, 5, 5, 5, 5, 5, 5, 5, 5, 5, 5, 5, 5, 5, 6, 6, 6, 6, 6, 6, 6, 6, 6, 6, 6, 6, 6, 6, 6, 6, 6, 6, 6, 6, 6, 6, 6, 6, 6, 6, 6, 6, 6, 6, 6, 6, 7, 7, 7, 7, 7, 7, 7, 7, 7, 7, 7, 7, 7, 7, 7, 7, 7, 7, 7, 7, 7, 7, 7, 7, 7, 7, 7, 7, 7, 7, 7, 7, 7, 7, 7, 7, 7, 7, 7, 7, 7, 7, 7, 7, 7, 7, 7, 7, 7, 7, 7, 7, 7, 7, 7, 7, 7, 7, 7, 7, 7, 7, 7, 7, 8, 8, 8, 8, 8, 8, 8, 8, 8, 8, 8, 8, 8, 8, 8, 8, 8, 8, 8, 8, 8, 8, 8, 8, 8, 8, 8, 8, 8, 8, 8, 8, 8, 8, 8, 8, 8, 8, 8, 8, 8, 8, 8, 8, 8, 8, 8, 8, 8, 8, 8, 8, 8, 8, 8, 8, 8, 8, 8, 8, 8, 8, 8, 8, 8, 8, 8, 8, 8, 8, 8, 8, 8, 8, 8, 8, 8, 8, 8, 8, 8, 8, 8, 8, 8, 8, 8, 8, 8, 8, 8, 8, 8, 8, 8, 8, 8, 8, 8, 8, 8, 8, 8, 8, 8, 8, 8, 8, 8, 8, 8, 8, 8, 8, 8, 8, 8, 8, 8, 8, 8, 8, 8, 8, 8, 8, 8, 8]⟩ : ByteArray)
theorem lenTab_all : ∀ i : Fin 256, (i.val < 2 ^ (bt lenTab (i.val : Int)).toNat) ∧ (1 ≤ i.val → 1 ≤ (bt lenTab (i.val : Int)).toNat ∧ 2 ^ ((bt lenTab (i.val : Int)).toNat - 1) ≤ i.val) ∧ (bt lenTab (i.val : Int)).toNat ≤ 8 := by decide +kernel
def HasLen (n r : Nat) : Prop := n < 2 ^ r ∧ (1 ≤ n → 1 ≤ r ∧ 2 ^ (r - 1) ≤ n)
theorem hasLen_shift {n s r : Nat} (h : HasLen (n / 2 ^ s) r) (hp : 1 ≤ n / 2 ^ s) : HasLen n (s + r) := by
 have h2 := h.2 hp
 have hpos : 0 < 2 ^ s := Nat.pow_pos (by omega)
 constructor
 ·rw [Nat.pow_add]
  have := (Nat.div_lt_iff_lt_mul hpos).1 h.1
  rwa [Nat.mul_comm]
 ·intro _
  refine ⟨by omega, ?_⟩
  rw [show s + r - 1 = s + (r - 1) by omega, Nat.pow_add, Nat.mul_comm]
  exact (Nat.le_div_iff_mul_le hpos).1 h2.2
theorem tab_len (i : Nat) (h : i < 256) : ∃ r : Nat, bt lenTab (i : Int) = (r : Int) ∧ r ≤ 8 ∧ HasLen i r := by
 have h1 := lenTab_all ⟨i, h⟩
 have h2 := bt_range lenTab (i : Int)
 exact ⟨(bt lenTab (i : Int)).toNat, by omega, h1.2.2, h1.1, h1.2.1⟩
theorem j0_ex : ∃ T : ByteArray, (∀ x c : Int, bits_Len64.j0 1 x c = if x ≥ 65536 then (if (x / 65536) ≥ 256 then (if 0 ≤ (((x / 65536) / 256) % 256) then (if (((x / 65536) / 256) % 256) < 256 then (some (wrap64 ((wrap64 ((wrap64 (c + 16)) + 8)) + (wrap64 (bt T (((x / 65536) / 256) % 256)))))) else (none)) else (none)) else (if 0 ≤ ((x / 65536) % 256) then (if ((x / 65536) % 256) < 256 then (some (wrap64 ((wrap64 (c + 16)) + (wrap64 (bt T ((x / 65536) % 256)))))) else (none)) else (none))) else (if x ≥ 256 then (if 0 ≤ ((x / 256) % 256) then (if ((x / 256) % 256) < 256 then (some (wrap64 ((wrap64 (c + 8)) + (wrap64 (bt T ((x / 256) % 256)))))) else (none)) else (none)) else (if 0 ≤ ((x) % 256) then (if ((x) % 256) < 256 then (some (wrap64 (c + (wrap64 (bt T ((x) % 256)))))) else (none)) else (none)))) ∧ ∀ i : Nat, i < 256 → ∃ r : Nat, bt T (i : Int) = (r : Int) ∧ r ≤ 8 ∧ HasLen i r := ⟨lenTab, fun x c => rfl, tab_len⟩
theorem w_a (c r : Nat) (hc : c ≤ 32) (hr : r ≤ 8) : wrap64 (wrap64 (wrap64 ((c : Int) + 16) + 8) + wrap64 (r : Int)) = ((c + (16 + (8 + r)) : Nat) : Int) := by unfold wrap64; omega
theorem w_b (c r : Nat) (hc : c ≤ 32) (hr : r ≤ 8) : wrap64 (wrap64 ((c : Int) + 16) + wrap64 (r : Int)) = ((c + (16 + r) : Nat) : Int) := by unfold wrap64; omega
theorem w_c (c r : Nat) (hc : c ≤ 32) (hr : r ≤ 8) : wrap64 (wrap64 ((c : Int) + 8) + wrap64 (r : Int)) = ((c + (8 + r) : Nat) : Int) := by unfold wrap64; omega
theorem w_d (c r : Nat) (hc : c ≤ 32) (hr : r ≤ 8) : wrap64 ((c : Int) + wrap64 (r : Int)) = ((c + r : Nat) : Int) := by unfold wrap64; omega
theorem len_j0 (x : Nat) (c : Nat) (hc : c ≤ 32) (hx : x < 4294967296) : ∃ r : Nat, bits_Len64.j0 1 (x : Int) (c : Int) = some ((c + r : Nat) : Int) ∧ r ≤ 32 ∧ HasLen x r := by
 have e16 : (2 : Nat) ^ 16 = 65536 := by decide
 have e8 : (2 : Nat) ^ 8 = 256 := by decide
 obtain ⟨T, hT, tab_len⟩ := j0_ex
 rw [hT]
 by_cases h1 : x ≥ 65536
 ·rw [if_pos (by omega)]
  by_cases h2 : x / 65536 ≥ 256
  ·obtain ⟨r, hr, h8, hl⟩ := tab_len (x / 65536 / 256) (by omega)
   have e : ((x : Int) / 65536 / 256) % 256 = ((x / 65536 / 256 : Nat) : Int) := by omega
   rw [if_pos (by omega), if_pos (by omega), if_pos (by omega), e]
   refine ⟨16 + (8 + r), ?_, by omega, ?_⟩
   ·rw [hr, w_a c r hc h8]
   ·refine hasLen_shift (s := 16) (hasLen_shift (s := 8) ?_ ?_) ?_
    ·rw [e16, e8]; exact hl
    ·rw [e16, e8]; omega
    ·rw [e16]; omega
  ·obtain ⟨r, hr, h8, hl⟩ := tab_len (x / 65536) (by omega)
   have e : ((x : Int) / 65536) % 256 = ((x / 65536 : Nat) : Int) := by omega
   rw [if_neg (by omega), if_pos (by omega), if_pos (by omega), e]
   refine ⟨16 + r, ?_, by omega, ?_⟩
   ·rw [hr, w_b c r hc h8]
   ·refine hasLen_shift (s := 16) ?_ ?_
    ·rw [e16]; exact hl
    ·rw [e16]; omega
 ·rw [if_neg (by omega)]
  by_cases h2 : x ≥ 256
  ·obtain ⟨r, hr, h8, hl⟩ := tab_len (x / 256) (by omega)
   have e : ((x : Int) / 256) % 256 = ((x / 256 : Nat) : Int) := by omega
   rw [if_pos (by omega), if_pos (by omega), if_pos (by omega), e]
   refine ⟨8 + r, ?_, by omega, ?_⟩
   ·rw [hr, w_c c r hc h8]
   ·refine hasLen_shift (s := 8) ?_ ?_
    ·rw [e8]; exact hl
    ·rw [e8]; omega
  ·obtain ⟨r, hr, h8, hl⟩ := tab_len x (by omega)
   have e : (x : Int) % 256 = (x : Int) := by omega
   rw [if_neg (by omega), if_pos (by omega), if_pos (by omega), e]
   refine ⟨r, ?_, by omega, hl⟩
   rw [hr, w_d c r hc h8]
theorem len_ev (x : Nat) (hx : x < 18446744073709551616) : ∃ r : Nat, bits_Len.f 1 (x : Int) = some (r : Int) ∧ r ≤ 64 ∧ HasLen x r := by
 unfold bits_Len.f bits_Len64.f
 by_cases h : x ≥ 4294967296
 ·obtain ⟨r, hr, h8, hl⟩ := len_j0 (x / 4294967296) 32 (by omega) (by omega)
  have e : (x : Int) / 4294967296 = ((x / 4294967296 : Nat) : Int) := by omega
  have e32 : (2 : Nat) ^ 32 = 4294967296 := by decide
  rw [if_pos (by omega), e]
  have hr2 : bits_Len64.j0 1 ((x / 4294967296 : Nat) : Int) 32 = some ((32 + r : Nat) : Int) := hr
  rw [hr2]
  exact ⟨32 + r, rfl, by omega, hasLen_shift (s := 32) (by rw [e32]; exact hl) (by rw [e32]; omega)⟩
 ·obtain ⟨r, hr, h8, hl⟩ := len_j0 x 0 (by omega) (by omega)
  rw [if_neg (by omega)]
  have hr2 : bits_Len64.j0 1 (x : Int) 0 = some ((0 + r : Nat) : Int) := hr
  rw [hr2]
  exact ⟨r, by simp, by omega, hl⟩
def grN : Nat → Nat → Nat
 | 0, _ => 1
 | k + 1, n => if n ≤ 127 then 1 else grN k (n / 128) + 1
theorem grN_eq : ∀ (m k n : Nat), m ≤ k → 128 ^ m ≤ n → n < 128 ^ (m + 1) → grN k n = m + 1 := by
 intro m
 induction m with
 | zero =>
  intro k n hk h0 h1
  have h2 : n < 128 := by simpa using h1
  cases k with
  | zero => rfl
  | succ k => show (if n ≤ 127 then 1 else _) = 1; rw [if_pos (by omega)]
 | succ m ih =>
  intro k n hk h0 h1
  obtain ⟨k, rfl⟩ : ∃ j, k = j + 1 := ⟨k - 1, by omega⟩
  have hp : 0 < 128 ^ m := Nat.pow_pos (by omega)
  rw [Nat.pow_succ] at h0 h1
  show (if n ≤ 127 then 1 else grN k (n / 128) + 1) = _
  rw [if_neg (by omega), ih k (n / 128) (by omega) ((Nat.le_div_iff_mul_le (by omega)).2 h0) ((Nat.div_lt_iff_lt_mul (by omega)).2 h1)]
theorem grN_small (k n : Nat) (h : n ≤ 127) : grN k n = 1 := by
 cases k with
 | zero => rfl
 | succ k => show (if n ≤ 127 then 1 else _) = 1; rw [if_pos h]
theorem gr_len {n r : Nat} (h : HasLen n r) (h1 : 1 ≤ n) (k : Nat) (hk : r ≤ k) : grN k n = (r + 6) / 7 := by
 have h2 := h.2 h1
 have e := grN_eq ((r + 6) / 7 - 1) k n (by omega)
 have e7 : (128 : Nat) = 2 ^ 7 := by decide
 have hlo : 128 ^ ((r + 6) / 7 - 1) ≤ n := by
  rw [e7, ← Nat.pow_mul]
  exact Nat.le_trans (Nat.pow_le_pow_right (by omega) (by omega)) h2.2
 have hhi : n < 128 ^ ((r + 6) / 7 - 1 + 1) := by
  rw [e7, ← Nat.pow_mul]
  exact Nat.lt_of_lt_of_le h.1 (Nat.pow_le_pow_right (by omega) (by omega))
 rw [e hlo hhi]; omega
theorem psize_ev (n : Int) (h1 : n ≤ 9223372036854775807) (h0 : 0 ≤ n) : pack_Size.f 1 n = some ((grN 64 n.toNat : Nat) : Int) := by
 obtain ⟨x, rfl⟩ := Int.eq_ofNat_of_zero_le h0
 obtain ⟨r, hr, h64, hl⟩ := len_ev x (by omega)
 have eu : IntKind.u64.wrap (x : Int) = (x : Int) := by rw [IntKind.wrap_u64]; omega
 unfold pack_Size.f
 rw [if_neg (by omega), eu, hr]
 simp only [Option.bind_some, Int.toNat_natCast]
 congr 1
 have w1 : wrap64 (wrap64 ((r : Int) + 7) - 1) = (r : Int) + 6 := by unfold wrap64; omega
 rw [w1, Int.tdiv_eq_ediv_of_nonneg (by omega)]
 have w2 : wrap64 (((r : Int) + 6) / 7) = ((r : Int) + 6) / 7 := by unfold wrap64; omega
 rw [w2]
 by_cases hx : 1 ≤ x
 ·have h2 := gr_len hl hx 64 h64
  have h3 := (hl.2 hx).1
  rw [h2]
  unfold mx
  split <;> omega
 ·obtain rfl : x = 0 := by omega
  have hr0 : r = 0 ∨ 1 ≤ r := by omega
  rw [grN_small 64 0 (by omega)]
  have h4 : (r + 6) / 7 ≤ 1 ∨ 2 ≤ (r + 6) / 7 := by omega
  rcases h4 with h4 | h4
  ·unfold mx; split <;> omega
  ·exfalso
   -- the table has no bits at nothing
   have : bits_Len.f 1 ((0 : Nat) : Int) = some 0 := by decide +kernel
   rw [this] at hr
   have := Option.some.inj hr
   omega
def sizeP (n : Int) : Int := if n < 0 then 0 else ((grN 64 n.toNat : Nat) : Int)
theorem psize_all (n : Int) (h : n ≤ 9223372036854775807) : pack_Size.f 1 n = some (sizeP n) := by
 unfold sizeP
 by_cases h0 : n < 0
 ·unfold pack_Size.f; rw [if_pos h0, if_pos h0]
 ·rw [if_neg h0]; exact psize_ev n h (by omega)
theorem rsum_go (bs : List Int) (hb : Bytes bs) (hl : bs.length ≤ 100000) : ∀ m (i : Nat), bs.length - i = m → i ≤ bs.length → ∃ k, parcloseref36_Sum.l0 k bs (sumP (bs.take i)) (i : Int) = some (sumP bs) := by
 intro m
 induction m with
 | zero =>
  intro i hm hi
  refine ⟨1, ?_⟩
  unfold parcloseref36_Sum.l0
  rw [if_neg (by omega), List.take_of_length_le (by omega)]
 | succ m ih =>
  intro i hm hi
  obtain ⟨k, hk⟩ := ih (i + 1) (by omega) (by omega)
  refine ⟨k + 1, ?_⟩
  have hi2 : i < bs.length := by omega
  have hc := hb (bs.getD i 0) (by rw [getD_lt bs 0 hi2]; exact List.getElem_mem _)
  have hs := sumP_bd (bs.take i)
  have e : sumP (bs.take (i + 1)) = sumS (sumP (bs.take i)) (bs.getD i 0) := by
   rw [List.take_succ_eq_append_getElem hi2]; unfold sumP; rw [List.foldl_append, getD_lt bs 0 hi2]; rfl
  rw [e] at hk
  unfold parcloseref36_Sum.l0
  rw [if_pos (by omega), if_pos (by omega), pk_w64 i (by omega)]
  have e2 : rd bs (i : Int) = bs.getD i 0 := by unfold rd; rw [Int.toNat_natCast]
  rw [e2]
  have e3 : Int.tmod (wrap64 (wrap64 (wrap64 (31 * sumP (bs.take i)) + wrap64 (bs.getD i 0)) + 7)) 65521 = sumS (sumP (bs.take i)) (bs.getD i 0) := by
   have w1 : wrap64 (31 * sumP (bs.take i)) = 31 * sumP (bs.take i) := by unfold wrap64; omega
   have w2 : wrap64 (bs.getD i 0) = bs.getD i 0 := by unfold wrap64; omega
   have w3 : wrap64 (31 * sumP (bs.take i) + bs.getD i 0) = 31 * sumP (bs.take i) + bs.getD i 0 := by unfold wrap64; omega
   have w4 : wrap64 (31 * sumP (bs.take i) + bs.getD i 0 + 7) = 31 * sumP (bs.take i) + bs.getD i 0 + 7 := by unfold wrap64; omega
   rw [w1, w2, w3, w4, Int.tmod_eq_emod_of_nonneg (by omega)]; rfl
  rw [e3]
  exact hk
theorem rsum_ev (bs : List Int) (hb : Bytes bs) (hl : bs.length ≤ 100000) : ∃ k, parcloseref36_Sum.f k bs = some (sumP bs) := rsum_go bs hb hl _ 0 rfl (Nat.zero_le _)
end Go.Proofs.Ytalimpniimgheaa.Fn
namespace Go.Proofs.Ytalimpniimgheaa.Fn
open Go.RowKit Go.Proofs.YtalimpniimgheaaW.PrintWords Go.Proofs.YtalimpniimgheaaW.PrintLast Go.Proofs.YtalimpniimgheaaW.PrintMore
attribute [local go_sem] max2_int min2_int max_two min_two max_three min_three max_four min_four
set_option linter.unusedVariables false
set_option linter.unusedSimpArgs false
mutual
def parcloseref36_Put.l0 : Nat → List (S64) → Int → Option (List Int × Int)
 | 0, _, _ => none
 | k + 1, x0, x4 => if x4 < (x0.length : Int) then (if 0 ≤ x4 then (if ((rd_T64 x0 x4).f1) < 0 then (some (([] : List Int), 2)) else (if ((rd_T64 x0 x4).f1) > 15 then (some (([] : List Int), 2)) else (if ((rd_T64 x0 x4).f0) < 0 then (some (([] : List Int), 2)) else (if ((rd_T64 x0 x4).f0) ≥ 72057594037927936 then (some (([] : List Int), 2)) else (if ((rd_T64 x0 x4).f2) < 0 then (some (([] : List Int), 2)) else (if ((rd_T64 x0 x4).f2) ≥ 72057594037927936 then (some (([] : List Int), 2)) else (if ((rd_T64 x0 x4).f3) < 0 then (some (([] : List Int), 2)) else (if ((rd_T64 x0 x4).f3) ≥ 72057594037927936 then (some (([] : List Int), 2)) else (parcloseref36_Put.l0 k x0 (wrap64 (x4 + 1))))))))))) else (none)) else (if (x0.length : Int) > 65536 then (some (([] : List Int), 11)) else ((parcloseref02_Number.f k 4 (x0.length : Int)).bind fun t376 => (parcloseref36_Put.l1 k x0 t376 0 0)))
def parcloseref36_Put.l1 : Nat → List (S64) → List Int → Int → Int → Option (List Int × Int)
 | 0, _, _, _, _ => none
 | k + 1, x0, x6, x7, x8 => if x8 < (x0.length : Int) then (if 0 ≤ x8 then (if ((rd_T64 x0 x8).f0) = x7 then (parcloseref36_Put.j2 k x0 x6 x8 (wrap64 (((rd_T64 x0 x8).f1) + 64)) ([] : List Int) ((rd_T64 x0 x8).f0) ((rd_T64 x0 x8).f1) ((rd_T64 x0 x8).f2) ((rd_T64 x0 x8).f3)) else (if ((rd_T64 x0 x8).f0) = (wrap64 (x7 + 1)) then (parcloseref36_Put.j2 k x0 x6 x8 (wrap64 (((rd_T64 x0 x8).f1) + 128)) ([] : List Int) ((rd_T64 x0 x8).f0) ((rd_T64 x0 x8).f1) ((rd_T64 x0 x8).f2) ((rd_T64 x0 x8).f3)) else ((parcloseref02_Number.f k 7 ((rd_T64 x0 x8).f0)).bind fun t388 => (if ([] : List Int).length + t388.length < 140737488355328 then (parcloseref36_Put.j2 k x0 x6 x8 ((rd_T64 x0 x8).f1) (([] : List Int) ++ t388) ((rd_T64 x0 x8).f0) ((rd_T64 x0 x8).f1) ((rd_T64 x0 x8).f2) ((rd_T64 x0 x8).f3)) else (none))))) else (none)) else ((parcloseref36_Sum.f k x6).bind fun t379 => ((parcloseref02_Number.f k 2 t379).bind fun t380 => (if x6.length + t380.length < 140737488355328 then (some ((x6 ++ t380), 0)) else (none))))
def parcloseref36_Put.j2 : Nat → List (S64) → List Int → Int → Int → List Int → Int → Int → Int → Int → Option (List Int × Int)
 | 0, _, _, _, _, _, _, _, _, _ => none
 | k + 1, x0, x6, x8, x10, x11, x388000, x388001, x388002, x388003 => if x388002 = 0 then (if x388003 = 0 then (if x6.length < 140737488355328 then ((some (x6 ++ [(wrap64 ((wrap64 (x10 + 16)) + 32)) % 256] : List Int)).bind fun y394 => (if y394.length + x11.length < 140737488355328 then (parcloseref36_Put.l1 k x0 (y394 ++ x11) x388000 (wrap64 (x8 + 1))) else (none))) else (none)) else ((parcloseref02_Number.f k 7 x388003).bind fun t400 => (if x11.length + t400.length < 140737488355328 then ((some (x11 ++ t400 : List Int)).bind fun y403 => (if x6.length < 140737488355328 then ((some (x6 ++ [(wrap64 (x10 + 16)) % 256] : List Int)).bind fun y406 => (if y406.length + y403.length < 140737488355328 then (parcloseref36_Put.l1 k x0 (y406 ++ y403) x388000 (wrap64 (x8 + 1))) else (none))) else (none))) else (none)))) else ((parcloseref02_Number.f k 7 x388002).bind fun t412 => (if x11.length + t412.length < 140737488355328 then ((some (x11 ++ t412 : List Int)).bind fun y415 => (if x388003 = 0 then (if x6.length < 140737488355328 then ((some (x6 ++ [(wrap64 (x10 + 32)) % 256] : List Int)).bind fun y418 => (if y418.length + y415.length < 140737488355328 then (parcloseref36_Put.l1 k x0 (y418 ++ y415) x388000 (wrap64 (x8 + 1))) else (none))) else (none)) else ((parcloseref02_Number.f k 7 x388003).bind fun t424 => (if y415.length + t424.length < 140737488355328 then ((some (y415 ++ t424 : List Int)).bind fun y427 => (if x6.length < 140737488355328 then ((some (x6 ++ [(x10) % 256] : List Int)).bind fun y430 => (if y430.length + y427.length < 140737488355328 then (parcloseref36_Put.l1 k x0 (y430 ++ y427) x388000 (wrap64 (x8 + 1))) else (none))) else (none))) else (none))))) else (none)))
end
def parcloseref36_Put.f (k : Nat) (l0 : List (S64)) : Option (List Int × Int) := parcloseref36_Put.l0 k l0 0
end Go.Proofs.Ytalimpniimgheaa.Fn
namespace Go.Proofs.Ytalimpniimgheaa.Fn
open Go.RowKit Go.Proofs.YtalimpniimgheaaW.PrintWords Go.Proofs.YtalimpniimgheaaW.PrintLast Go.Proofs.YtalimpniimgheaaW.PrintMore
attribute [local go_sem] max2_int min2_int max_two min_two max_three min_three max_four min_four
set_option linter.unusedVariables false
set_option linter.unusedSimpArgs false
def parcloselaw36_owns.l0 : Nat → List (S64) → List (S65) → Int → Option ((List (S65)))
 | 0, _, _, _ => none
 | k + 1, x0, x3, x4 => if x4 < (x0.length : Int) then (if 0 ≤ x4 then (if x3.length < 4398046511104 then (parcloselaw36_owns.l0 k x0 (x3 ++ [(⟨(rd_T64 x0 x4).f0, (rd_T64 x0 x4).f1, (rd_T64 x0 x4).f2, (rd_T64 x0 x4).f3⟩ : S65)]) (wrap64 (x4 + 1))) else (none)) else (none)) else (some x3)
def parcloselaw36_owns.f (k : Nat) (l0 : List (S64)) : Option ((List (S65))) := parcloselaw36_owns.l0 k l0 ([] : List (S65)) 0
end Go.Proofs.Ytalimpniimgheaa.Fn
namespace Go.Proofs.Ytalimpniimgheaa.Fn
open Go.RowKit Go.Proofs.YtalimpniimgheaaW.PrintWords Go.Proofs.YtalimpniimgheaaW.PrintLast Go.Proofs.YtalimpniimgheaaW.PrintMore
set_option linter.unusedVariables false
set_option linter.unusedSimpArgs false
def eP (x : S64) : S65 := ⟨x.f0, x.f1, x.f2, x.f3⟩
end Go.Proofs.Ytalimpniimgheaa.Fn
namespace Go.Proofs.Ytalimpniimgheaa.Fn
open Go.RowKit Go.Proofs.YtalimpniimgheaaW.PrintWords Go.Proofs.YtalimpniimgheaaW.PrintLast Go.Proofs.YtalimpniimgheaaW.PrintMore
attribute [local go_sem] max2_int min2_int max_two min_two max_three min_three max_four min_four
set_option linter.unusedVariables false
set_option linter.unusedSimpArgs false
def parcloselaw36_num.f (a0 : Int) : Option (Int) := some a0
set_option maxHeartbeats 8000000 in
set_option maxRecDepth 100000 in
theorem parcloselaw36_num.calls (a0 : Int) (r : Int) (w : World) (h : parcloselaw36_num.f a0 = some r) :
  Calls Try.prog 56 #[.int .i64 a0] w fun e w' => e = .returned (.int .i64 r) ∧ Drawn0 w w' := by
 have H : (some a0) = some r := h
 clear h
 obtain rfl := Option.some.inj H
 go_enter Try.func56, Try.ntmps56
 go_wp2
 go_ret
 exact ⟨by first | rfl | (simp; done) | (simp [*]; done), by repeat (first | exact Drawn0.refl _ | apply Drawn0.step)⟩
end Go.Proofs.Ytalimpniimgheaa.Fn
namespace Go.Proofs.Ytalimpniimgheaa.Fn
open Go.RowKit Go.Proofs.YtalimpniimgheaaW.PrintWords Go.Proofs.YtalimpniimgheaaW.PrintLast Go.Proofs.YtalimpniimgheaaW.PrintMore
set_option linter.unusedVariables false
set_option linter.unusedSimpArgs false
instance decS65 : DecidableEq S65 := fun a b => decidable_of_iff (a.f0 = b.f0 ∧ a.f1 = b.f1 ∧ a.f2 = b.f2 ∧ a.f3 = b.f3) (by cases a; cases b; simp)
def xK : S65 := ⟨1, 3, 5, 0⟩
def bsK : List Int := [0, 0, 0, 1, 163, 0, 0, 0, 0, 0, 0, 5, 23, 139]
theorem putK : putP [xK] = (bsK, 0) := by decide +kernel
theorem getK : getP bsK = ([xK], 0) := by decide +kernel
theorem bytesK : Bytes bsK := by unfold Bytes bsK; simp
theorem C_one65 {w : World} {g t : Nat} {a b c d : Int} (h : w.heap[g]? = some (.cells #[.int .i64 a, .int .i64 b, .int .i64 c, .int .i64 d] t (0, 0))) : Kd.C k65 w (some ⟨g, 0, none⟩) 1 [(⟨a, b, c, d⟩ : S65)] := by
 refine ⟨rfl, by simp, fun _ => ⟨_, rfl, ?_⟩⟩
 intro j p hp
 match j, hp with
 | 0, hp =>
  cases hp
  refine ⟨_, rfl, k65_mk w ⟨a, b, c, d⟩, fun i u hu => ?_⟩
  have h2 := blk_cell h i
  rw [add_plain, show 0 * k65.sz + i = i by simp]
  rw [h2]
  match i with
  | 0 => exact hu
  | 1 => exact hu
  | 2 => exact hu
  | 3 => exact hu
  | i + 4 => exact absurd hu (by simp)
 | j + 1, hp => exact absurd hp (by simp)
theorem at_u8 {w : World} {A : Option Addr} {n : Nat} {ys : List Int} (h : Kd.C (Kd.int .u8) w A n ys) (i : Int) (h0 : 0 ≤ i) (h1 : i < n) : ∃ ad, A = some ad ∧ w.cell? (ad.add i.toNat) = some (.int .u8 (ys.getD i.toNat 0)) := by
 obtain ⟨ad, cc, rfl, _, hK, hc0⟩ := Kd.C_get h 0 i h0 h1
 have ee : cc = [.int .u8 (ys.getD i.toNat 0)] := hK
 subst ee
 refine ⟨ad, rfl, ?_⟩
 have h := hc0 0 _ rfl
 rwa [show i.toNat * (Kd.int .u8).sz + 0 = i.toNat from Nat.mul_one _] at h
theorem sizeK : sizeP 128 = 2 := by decide +kernel
set_option maxHeartbeats 8000000 in
set_option maxRecDepth 100000 in
theorem pknows_calls (w : World) : Calls Try.prog 52 #[] w fun e w' => e = .returned (.bool true) ∧ Below w.heap.size w w' := by
 have hu := Try.underlying65
 have C1 := asd (C_one65 (heap_alloc_new w (.cells #[.int .i64 1, .int .i64 3, .int .i64 5, .int .i64 0] 65)))
 have HB0 := asd (below_alloc (Below.refl w.heap.size w) (.cells #[.int .i64 1, .int .i64 3, .int .i64 5, .int .i64 0] 65))
 have SZ := asd (fun wx => pack_Size.calls 1 128 (sizeP 128) wx (psize_all 128 (by omega)))
 rw [sizeK] at SZ
 go_enter Try.func52, Try.ntmps52
 go_wp2_with fail
 generalize w.alloc (.cells #[.int .i64 1, .int .i64 3, .int .i64 5, .int .i64 0] 65) = w1 at C1 HB0 ⊢
 have PC : Calls Try.prog 53 #[.slice (some ⟨w.heap.size, 0, none⟩) 1 1] w1 fun e w' => ∃ A' c', e = .returned (.tuple #[.slice A' 14 c', .int .i64 0]) ∧ 14 ≤ c' ∧ Kd.C (Kd.int .u8) w' A' 14 bsK ∧ Below w1.heap.size w1 w' := by
  have h := pPut_calls (some ⟨w.heap.size, 0, none⟩) 1 [xK] w1 C1.out (Nat.le_refl _) (by decide)
  rw [putK] at h
  exact h
 refine PC.mono ?_
 rintro e w2 ⟨A2, c2, rfl, hc2, hC2, hb⟩
 have C2 := asd (And.intro hc2 hC2)
 have HB1 := asd (below_step HB0.out hb)
 clear PC hc2 hC2 hb C1 HB0
 go_wp2_with fail
 have GC : Calls Try.prog 61 #[.slice A2 14 c2] w2 fun e w' => ∃ A' c', e = .returned (.tuple #[.slice A' 1 c', .int .i64 0]) ∧ 1 ≤ c' ∧ Kd.C k65 w' A' 1 [xK] ∧ Below w2.heap.size w2 w' := by
  have h := pGet_calls A2 c2 bsK w2 C2.out.2 C2.out.1 bytesK (by decide)
  rw [getK] at h
  exact h
 refine GC.mono ?_
 rintro e w3 ⟨A3, c3, rfl, hc3, hC3, hb⟩
 have C3 := asd (And.intro hc3 hC3)
 have HB := asd (below_step HB1.out hb)
 have C2b := asd (Kd.C_below C2.out.2 hb)
 clear GC hc3 hC3 hb HB1 C2
 go_wp2_with fail
 refine (parcloselaw36_num.calls _ _ _ rfl).mono ?_
 rintro e w4 ⟨rfl, hd⟩
 have HB4 := asd (below_step HB.out hd.below)
 have C2c := asd (Kd.C_below C2b.out hd.below)
 have C3c := asd (Kd.C_below C3.out.2 hd.below)
 clear hd HB C2b C3
 go_wp2_with fail
 refine (parcloselaw36_num.calls _ _ _ rfl).mono ?_
 rintro e w5 ⟨rfl, hd⟩
 have HB5 := asd (below_step HB4.out hd.below)
 obtain ⟨ad2, rfl, y4⟩ := at_u8 (Kd.C_below C2c.out hd.below) 4 (by decide) (by decide)
 obtain ⟨ad3, rfl, _, _, z2, _⟩ := at_T65 (Kd.C_below C3c.out hd.below) 0 (by decide) (by decide)
 have ez : ad2.add 0 = ad2 := by cases ad2; rfl
 have y5 : w5.cell? ⟨ad2.block, ad2.off + 4, none⟩ = some (.int .u8 163) := by
  have h := y4
  rw [show ((4 : Int).toNat) = 0 + 4 from rfl, add_field ad2 0 4 (by omega), ez] at h
  exact h
 have ea : ad3.add ((0 : Int).toNat * 4) = ad3 := by cases ad3; rfl
 rw [ea] at z2
 have z3 : w5.cell? ⟨ad3.block, ad3.off + 2, none⟩ = some (.int .i64 5) := z2
 clear hd HB4 C2c C3c y4 z2 ea ez
 go_wp2_with (first | (go_at_call 57; refine (SZ.out _).mono ?_; rintro e w6 ⟨rfl, hb⟩; have HB6 := asd (below_step HB5.out hb); clear hb))
 go_ret
 exact ⟨rfl, HB6.out⟩
end Go.Proofs.Ytalimpniimgheaa.Fn
namespace Go.Proofs.Ytalimpniimgheaa.Fn
open Go.RowKit Go.Proofs.YtalimpniimgheaaW.PrintWords Go.Proofs.YtalimpniimgheaaW.PrintLast Go.Proofs.YtalimpniimgheaaW.PrintMore
set_option linter.unusedVariables false
set_option linter.unusedSimpArgs false
theorem rsum_calls (A : Option Addr) (c : Nat) (bs : List Int) (w : World) (h : Kd.C (Kd.int .u8) w A bs.length bs) (hc : bs.length ≤ c) (hb : Bytes bs) (hl : bs.length ≤ 100000) : Calls Try.prog 60 #[.slice A bs.length c] w fun e w' => e = .returned (.int .i64 (sumP bs)) ∧ Below w.heap.size w w' := by
 obtain ⟨k, hk⟩ := rsum_ev bs hb hl
 refine (parcloseref36_Sum.calls k A c bs _ w h hc hk).mono ?_
 rintro e w1 ⟨rfl, hd⟩
 exact ⟨rfl, hd.below⟩
theorem wf_u8 {n : Int} (h : (Lit.int .u8 n).wf = true) : 0 ≤ n ∧ n < 256 := by
 simp [Lit.wf] at h
 have h1 : IntKind.u8.min = 0 := by decide
 have h2 : IntKind.u8.max = 255 := by decide
 omega
end Go.Proofs.Ytalimpniimgheaa.Fn
namespace Go.Proofs.Ytalimpniimgheaa.Fn
open Go.RowKit Go.Proofs.YtalimpniimgheaaW.PrintWords Go.Proofs.YtalimpniimgheaaW.PrintLast Go.Proofs.YtalimpniimgheaaW.PrintMore
attribute [local go_sem] max2_int min2_int max_two min_two max_three min_three max_four min_four
set_option linter.unusedVariables false
set_option linter.unusedSimpArgs false
theorem eqA64 (d : Nat) (w : World) (x0 y0 : Int) (x1 y1 : Int) (x2 y2 : Int) (x3 y3 : Int) :
  (Op.equalIn (d + 2) 64 (.agg #[.int .i64 x0, .int .i64 x1, .int .i64 x2, .int .i64 x3]) (.agg #[.int .i64 y0, .int .i64 y1, .int .i64 y2, .int .i64 y3])).run Try.prog w = .ok (x0 == y0 && (x1 == y1 && (x2 == y2 && (x3 == y3)))) w := by
 refine eqA_of Try.underlying64 (by kernel_rfl) ?_
 refine eqf_cons (by rfl) (by go_simp; rfl) (by go_simp; rfl) (by go_simp) ?_
 refine eqf_cons (by rfl) (by go_simp; rfl) (by go_simp; rfl) (by go_simp) ?_
 refine eqf_cons (by rfl) (by go_simp; rfl) (by go_simp; rfl) (by go_simp) ?_
 exact eqf_last (by rfl) (by go_simp; rfl) (by go_simp; rfl) (by go_simp)
end Go.Proofs.Ytalimpniimgheaa.Fn
namespace Go.Proofs.Ytalimpniimgheaa.Fn
open Go.RowKit Go.Proofs.YtalimpniimgheaaW.PrintWords Go.Proofs.YtalimpniimgheaaW.PrintLast Go.Proofs.YtalimpniimgheaaW.PrintMore
attribute [local go_sem] max2_int min2_int max_two min_two max_three min_three max_four min_four
set_option linter.unusedVariables false
set_option linter.unusedSimpArgs false
attribute [local go_sem high] eqA64
def parcloseref23_Same.l0 : Nat → List (S64) → List (S64) → Int → Option (Bool)
 | 0, _, _, _ => none
 | k + 1, x0, x1, x5 => if x5 < (x0.length : Int) then (if 0 ≤ x5 then (if x5 < (x1.length : Int) then (if (!(((rd_T64 x0 x5).f0) == ((rd_T64 x1 x5).f0)) || (!(((rd_T64 x0 x5).f1) == ((rd_T64 x1 x5).f1)) || (!(((rd_T64 x0 x5).f2) == ((rd_T64 x1 x5).f2)) || (!(((rd_T64 x0 x5).f3) == ((rd_T64 x1 x5).f3)))))) = true then (some false) else (parcloseref23_Same.l0 k x0 x1 (wrap64 (x5 + 1)))) else (none)) else (none)) else (some true)
def parcloseref23_Same.f (k : Nat) (l0 : List (S64)) (l1 : List (S64)) : Option (Bool) := if (l0.length : Int) = (l1.length : Int) then (parcloseref23_Same.l0 k l0 l1 0) else (some false)
set_option maxHeartbeats 8000000 in
set_option maxRecDepth 100000 in
theorem parcloseref23_Same.calls (k : Nat) (A0 : Option Addr) (c0 : Nat) (l0 : List (S64)) (A1 : Option Addr) (c1 : Nat) (l1 : List (S64)) (r : Bool) (w : World) (hr0 : Kd.C k64 w A0 l0.length l0) (hc0 : l0.length ≤ c0) (hr1 : Kd.C k64 w A1 l1.length l1) (hc1 : l1.length ≤ c1) (h : parcloseref23_Same.f k l0 l1 = some r) :
  Calls Try.prog 22 #[.slice A0 l0.length c0, .slice A1 l1.length c1] w fun e w' => e = .returned (.bool r) ∧ Drawn0 w w' := by
 have hu64 := Try.underlying64
 have HR0 := asd hr0
 have HC0 := asd hc0
 clear hr0 hc0
 have HR1 := asd hr1
 have HC1 := asd hc1
 clear hr1 hc1
 have H : (if (l0.length : Int) = (l1.length : Int) then (parcloseref23_Same.l0 k l0 l1 0) else (some false)) = some r := h
 clear h
 by_cases c3 : (l0.length : Int) = (l1.length : Int)
 ·rw [if_pos c3] at H
  have c3b0 : ((l0.length : Int) == (l1.length : Int)) = true := beq_iff_eq.mpr c3
  have c3b1 : ((l0.length : Int) != (l1.length : Int)) = false := bne_eq_false_iff_eq.mpr c3
  have c3b2 : (l0.length == l1.length) = true := by first | simpa using c3 | (simp at c3 ⊢; omega)
  clear c3
  have H' := asd H
  clear H
  go_enter Try.func22, Try.ntmps22
  go_wp2
  repeat (go_quiet (fail); try go_wp2)
  go_loopg [5] k (fun kq v5 w' => ∃ (x5_1 : Int), v5 = .int .i64 x5_1 ∧ Aside0 (parcloseref23_Same.l0 kq l0 l1 x5_1 = some r) ∧ Aside0 (kq ≤ k) ∧ Drawn0 w w')
  case atStart => exact ⟨(0), (by first | rfl | (simp; done) | (simp [*]; done)), H', ⟨Nat.le_refl _⟩, by repeat (first | exact Drawn0.refl _ | apply Drawn0.step)⟩
  case round =>
   clear H'
   try clear c1
   try clear c2
   try clear p2
   try clear c3
   try clear c3b0
   try clear c3b1
   try clear c3b2
   obtain ⟨x5_1, rfl, HA, HK1, ⟨m1, rfl⟩⟩ := hrel
   cases gk with
   | zero => exact absurd HA.out (by simp [parcloseref23_Same.l0])
   | succ k1 =>
    have H := HA.out
    clear HA
    simp only [parcloseref23_Same.l0] at H
    by_cases c4 : x5_1 < (l0.length : Int)
    ·rw [if_pos c4] at H
     have c4b0 : decide (x5_1 < (l0.length : Int)) = true := decide_eq_true c4
     clear c4
     by_cases c5 : 0 ≤ x5_1
     ·rw [if_pos c5] at H
      have c5b0 : decide (0 ≤ x5_1) = true := decide_eq_true c5
      clear c5
      by_cases c6 : x5_1 < (l1.length : Int)
      ·rw [if_pos c6] at H
       have c6b0 : decide (x5_1 < (l1.length : Int)) = true := decide_eq_true c6
       clear c6
       by_cases c7 : (!(((rd_T64 l0 x5_1).f0) == ((rd_T64 l1 x5_1).f0)) || (!(((rd_T64 l0 x5_1).f1) == ((rd_T64 l1 x5_1).f1)) || (!(((rd_T64 l0 x5_1).f2) == ((rd_T64 l1 x5_1).f2)) || (!(((rd_T64 l0 x5_1).f3) == ((rd_T64 l1 x5_1).f3)))))) = true
       ·rw [if_pos c7] at H
        have c7b0 : (!(((rd_T64 l0 x5_1).f0) == ((rd_T64 l1 x5_1).f0)) || (!(((rd_T64 l0 x5_1).f1) == ((rd_T64 l1 x5_1).f1)) || (!(((rd_T64 l0 x5_1).f2) == ((rd_T64 l1 x5_1).f2)) || (!(((rd_T64 l0 x5_1).f3) == ((rd_T64 l1 x5_1).f3)))))) = true := c7
        clear c7
        obtain rfl := Option.some.inj H
        have p116 : 0 ≤ (x5_1 : Int) := of_decide_eq_true (by assumption)
        have q116 : x5_1 < (l0.length : Int) := of_decide_eq_true (by assumption)
        obtain ⟨ad116, e116, hx116_0, hx116_1, hx116_2, hx116_3⟩ := at_T64 HR0.out x5_1 p116 q116
        cases e116
        replace p116 := eq_true p116
        replace q116 := eq_true q116
        have p117 : 0 ≤ (x5_1 : Int) := of_decide_eq_true (by assumption)
        have q117 : x5_1 < (l1.length : Int) := of_decide_eq_true (by assumption)
        obtain ⟨ad117, e117, hx117_0, hx117_1, hx117_2, hx117_3⟩ := at_T64 HR1.out x5_1 p117 q117
        cases e117
        replace p117 := eq_true p117
        replace q117 := eq_true q117
        go_wp2
        repeat (go_quiet (fail); try go_wp2)
        go_ret
        exact ⟨by first | rfl | (simp; done) | (simp [*]; done), by repeat (first | exact Drawn0.refl _ | apply Drawn0.step)⟩
       ·rw [if_neg c7] at H
        have c7b0 : (!(((rd_T64 l0 x5_1).f0) == ((rd_T64 l1 x5_1).f0)) || (!(((rd_T64 l0 x5_1).f1) == ((rd_T64 l1 x5_1).f1)) || (!(((rd_T64 l0 x5_1).f2) == ((rd_T64 l1 x5_1).f2)) || (!(((rd_T64 l0 x5_1).f3) == ((rd_T64 l1 x5_1).f3)))))) = false := by simpa using c7
        clear c7
        have H' := asd H
        clear H
        have p116 : 0 ≤ (x5_1 : Int) := of_decide_eq_true (by assumption)
        have q116 : x5_1 < (l0.length : Int) := of_decide_eq_true (by assumption)
        obtain ⟨ad116, e116, hx116_0, hx116_1, hx116_2, hx116_3⟩ := at_T64 HR0.out x5_1 p116 q116
        cases e116
        replace p116 := eq_true p116
        replace q116 := eq_true q116
        have p117 : 0 ≤ (x5_1 : Int) := of_decide_eq_true (by assumption)
        have q117 : x5_1 < (l1.length : Int) := of_decide_eq_true (by assumption)
        obtain ⟨ad117, e117, hx117_0, hx117_1, hx117_2, hx117_3⟩ := at_T64 HR1.out x5_1 p117 q117
        cases e117
        replace p117 := eq_true p117
        replace q117 := eq_true q117
        go_wp2
        repeat (go_quiet (fail); try go_wp2)
        go_roundg k1
        case measure => have := HK1.out; omega
        case rel => exact ⟨(wrap64 (x5_1 + 1)), (by first | rfl | (simp; done) | (simp [*]; done)), H', ⟨by have := HK1.out; omega⟩, by repeat (first | exact Drawn0.refl _ | apply Drawn0.step)⟩
      ·rw [if_neg c6] at H
       exact absurd H (by simp)
     ·rw [if_neg c5] at H
      exact absurd H (by simp)
    ·rw [if_neg c4] at H
     have c4b0 : decide (x5_1 < (l0.length : Int)) = false := decide_eq_false c4
     clear c4
     obtain rfl := Option.some.inj H
     go_wp2
     repeat (go_quiet (fail); try go_wp2)
     go_ret
     exact ⟨by first | rfl | (simp; done) | (simp [*]; done), by repeat (first | exact Drawn0.refl _ | apply Drawn0.step)⟩
 ·rw [if_neg c3] at H
  have c3b0 : ((l0.length : Int) == (l1.length : Int)) = false := beq_eq_false_iff_ne.mpr c3
  have c3b1 : ((l0.length : Int) != (l1.length : Int)) = true := bne_iff_ne.mpr c3
  have c3b2 : (l0.length == l1.length) = false := by first | simpa using c3 | (simp at c3 ⊢; omega)
  obtain rfl := Option.some.inj H
  go_enter Try.func22, Try.ntmps22
  go_wp2
  repeat (go_quiet (fail); try go_wp2)
  go_ret
  exact ⟨by first | rfl | (simp; done) | (simp [*]; done), by repeat (first | exact Drawn0.refl _ | apply Drawn0.step)⟩
end Go.Proofs.Ytalimpniimgheaa.Fn
namespace Go.Proofs.Ytalimpniimgheaa.Fn
open Go.RowKit Go.Proofs.YtalimpniimgheaaW.PrintWords Go.Proofs.YtalimpniimgheaaW.PrintLast Go.Proofs.YtalimpniimgheaaW.PrintMore
attribute [local go_sem] max2_int min2_int max_two min_two max_three min_three max_four min_four
set_option linter.unusedVariables false
set_option linter.unusedSimpArgs false
def parcloselaw23_Refs.l0 : Nat → List (S65) → List (S64) → Int → Option ((List (S64)))
 | 0, _, _, _ => none
 | k + 1, x0, x3, x4 => if x4 < (x0.length : Int) then (if 0 ≤ x4 then (if x3.length < 4398046511104 then (parcloselaw23_Refs.l0 k x0 (x3 ++ [(⟨(rd_T65 x0 x4).f0, (rd_T65 x0 x4).f1, (rd_T65 x0 x4).f2, (rd_T65 x0 x4).f3⟩ : S64)]) (wrap64 (x4 + 1))) else (none)) else (none)) else (some x3)
def parcloselaw23_Refs.f (k : Nat) (l0 : List (S65)) : Option ((List (S64))) := parcloselaw23_Refs.l0 k l0 ([] : List (S64)) 0
set_option maxHeartbeats 8000000 in
set_option maxRecDepth 100000 in
theorem parcloselaw23_Refs.calls (k : Nat) (A0 : Option Addr) (c0 : Nat) (l0 : List (S65)) (r : List (S64)) (w : World) (hr0 : Kd.C k65 w A0 l0.length l0) (hc0 : l0.length ≤ c0) (h : parcloselaw23_Refs.f k l0 = some r) :
  Calls Try.prog 23 #[.slice A0 l0.length c0] w fun e w' => ∃ v0_ : Value, e = .returned (v0_) ∧ Kd.R k64 64 w' w.heap.size (fun _ => True) v0_ r ∧ Below w.heap.size w w' := by
 have hu65 := Try.underlying65
 have HR0 := asd hr0
 have HC0 := asd hc0
 clear hr0 hc0
 have HB := asd (Below.refl w.heap.size w)
 have H : (parcloselaw23_Refs.l0 k l0 ([] : List (S64)) 0) = some r := h
 clear h
 have H' := asd H
 clear H
 go_enter Try.func23, Try.ntmps23
 go_wp2
 go_loopg [3, 4] k (fun kq v3 v4 w' => ∃ (x3_1 : List (S64)) (x4_1 : Int), v4 = .int .i64 x4_1 ∧ Aside0 (parcloselaw23_Refs.l0 kq l0 x3_1 x4_1 = some r) ∧ Aside0 (kq ≤ k) ∧ Aside0 (Kd.R k64 64 w' w.heap.size (fun _ => True) v3 x3_1) ∧ Aside0 (Below w.heap.size w w'))
 case atStart => exact ⟨(([] : List (S64))), (0), (by first | rfl | (simp; done) | (simp [*]; done)), H', ⟨Nat.le_refl _⟩, ⟨by first | exact Kd.R_nil _ _ _ _ _ | exact Kd.N_nil _ _ _ _ _ | exact Kd.V_nil _ _ _ _ _ | exact Kd.Q_nil _ _ _ _ _ | exact Kd.S_nil _ _ _ _ _⟩, ⟨by repeat (first | (with_reducible first | exact HB.out | apply wa | apply wn | apply wd) | exact HB.out)⟩⟩
 case round =>
  clear H'
  obtain ⟨x3_1, x4_1, rfl, HA, HK1, HO_3, HB⟩ := hrel
  cases gk with
  | zero => exact absurd HA.out (by simp [parcloselaw23_Refs.l0])
  | succ k1 =>
   have H := HA.out
   clear HA
   simp only [parcloselaw23_Refs.l0] at H
   by_cases c2 : x4_1 < (l0.length : Int)
   ·rw [if_pos c2] at H
    have c2b0 : decide (x4_1 < (l0.length : Int)) = true := decide_eq_true c2
    clear c2
    by_cases c3 : 0 ≤ x4_1
    ·rw [if_pos c3] at H
     have c3b0 : decide (0 ≤ x4_1) = true := decide_eq_true c3
     clear c3
     by_cases c4 : x3_1.length < 4398046511104
     ·rw [if_pos c4] at H
      have LMc4 := asd c4
      clear c4
      obtain ⟨y119, hy119⟩ : ∃ y_ : List (S64), y_ = (x3_1 ++ [(⟨(rd_T65 l0 x4_1).f0, (rd_T65 l0 x4_1).f1, (rd_T65 l0 x4_1).f2, (rd_T65 l0 x4_1).f3⟩ : S64)]) := ⟨_, rfl⟩
      replace H : (parcloselaw23_Refs.l0 k1 l0 y119 (wrap64 (x4_1 + 1))) = some r := by first | (rw [hy119]; with_reducible exact H) | (have H2_ := (Option.bind_some _ _).symm.trans H; rw [hy119]; with_reducible exact H2_) | (have H2_ := (Option.bind_some _ _).symm.trans H; with_reducible exact H2_) | with_reducible exact H | (rw [hy119]; exact H) | exact H
      have Ny119 := asd hy119
      clear hy119
      have H' := asd H
      clear H
      have p118 : 0 ≤ (x4_1 : Int) := of_decide_eq_true (by assumption)
      have q118 : x4_1 < (l0.length : Int) := of_decide_eq_true (by assumption)
      obtain ⟨ad118, e118, hx118_0, hx118_1, hx118_2, hx118_3⟩ := at_T65 HR0.out x4_1 p118 q118
      cases e118
      replace hx118_0 := (HB.out.cell (World.block_lt_of_cell? w _ hx118_0)).trans hx118_0
      replace hx118_1 := (HB.out.cell (World.block_lt_of_cell? w _ hx118_1)).trans hx118_1
      replace hx118_2 := (HB.out.cell (World.block_lt_of_cell? w _ hx118_2)).trans hx118_2
      replace hx118_3 := (HB.out.cell (World.block_lt_of_cell? w _ hx118_3)).trans hx118_3
      replace p118 := eq_true p118
      replace q118 := eq_true q118
      go_wp2_with (first | ((with_reducible refine gate_builtin (b := .append) (xs := #[.tmp 11, .tmp 16]) rfl ?_); at_builtin; refine Kd.R_append k64 (w0 := w) w.heap.size rfl (.tmp 11) (.tmp 16) 29 64 (.agg #[(.int .i64 0), (.int .i64 0), (.int .i64 0), (.int .i64 0)]) 32 rfl Try.underlying29 info64 rfl (by decide) (by omega) u3 x3_1 (⟨(rd_T65 l0 x4_1).f0, (rd_T65 l0 x4_1).f1, (rd_T65 l0 x4_1).f2, (rd_T65 l0 x4_1).f3⟩ : S64) [.int .i64 ((rd_T65 l0 x4_1).f0), .int .i64 ((rd_T65 l0 x4_1).f1), .int .i64 ((rd_T65 l0 x4_1).f2), .int .i64 ((rd_T65 l0 x4_1).f3)] (fun _ => True) (fun _ => False) rfl rfl ?aP (fun _ hk => hk.elim) ?aF ?aO ?aB ?aS ?aL ?_; (case aP => exact k64_mkM _ _ _ (⟨(rd_T65 l0 x4_1).f0, (rd_T65 l0 x4_1).f1, (rd_T65 l0 x4_1).f2, (rd_T65 l0 x4_1).f3⟩ : S64)); (case aB => exact (by repeat (first | (with_reducible first | exact HB.out | apply wa | apply wn | apply wd) | exact HB.out))); (case aF => exact (fun _ _ => trivial)); (case aO => exact (by (with_reducible repeat (first | apply Kd.R_alloc | apply Kd.R_drewN | apply Kd.R_drew)); exact HO_3.out)); (case aS => exact (below_size (by repeat (first | (with_reducible first | exact HB.out | apply wa | apply wn | apply wd) | exact HB.out)))); (case aL => have := LMc4.out; omega); intro v120 w5 ho hb hg hat; rw [← Ny119.out] at ho; have n0_ := asd (hb); have n1_ := asd (ho); clear HB; clear HO_3; have HB := n0_; have HO121 := n1_; clear n0_ n1_; clear ho hb hg hat))
      go_roundg k1
      case measure => have := HK1.out; omega
      case rel => exact ⟨(y119), (wrap64 (x4_1 + 1)), (by first | rfl | (simp; done) | (simp [*]; done)), H', ⟨by have := HK1.out; omega⟩, ⟨by (with_reducible repeat (first | apply Kd.R_alloc | apply Kd.R_drewN | apply Kd.R_drew)); exact HO121.out⟩, ⟨by repeat (first | (with_reducible first | exact HB.out | apply wa | apply wn | apply wd) | exact HB.out)⟩⟩
     ·rw [if_neg c4] at H
      exact absurd H (by simp)
    ·rw [if_neg c3] at H
     exact absurd H (by simp)
   ·rw [if_neg c2] at H
    have c2b0 : decide (x4_1 < (l0.length : Int)) = false := decide_eq_false c2
    clear c2
    obtain rfl := Option.some.inj H
    go_wp2
    go_ret
    exact ⟨_, by first | rfl | (simp [*] <;> rfl), by (with_reducible repeat (first | apply Kd.R_alloc | apply Kd.R_drewN | apply Kd.R_drew)); exact HO_3.out, by repeat (first | (with_reducible first | exact HB.out | apply wa | apply wn | apply wd) | exact HB.out)⟩
end Go.Proofs.Ytalimpniimgheaa.Fn
namespace Go.Proofs.Ytalimpniimgheaa.Fn
open Go.RowKit Go.Proofs.YtalimpniimgheaaW.PrintWords Go.Proofs.YtalimpniimgheaaW.PrintLast Go.Proofs.YtalimpniimgheaaW.PrintMore
set_option linter.unusedVariables false
set_option linter.unusedSimpArgs false
instance decS64p : DecidableEq S64 := fun a b => decidable_of_iff (a.f0 = b.f0 ∧ a.f1 = b.f1 ∧ a.f2 = b.f2 ∧ a.f3 = b.f3) (by cases a; cases b; simp)
def toRP (x : S65) : S64 := ⟨x.f0, x.f1, x.f2, x.f3⟩
theorem refsP_ev (l : List S65) (hl : l.length ≤ 65536) : ∀ (n x : Nat) (acc : List S64), x + n = l.length → acc.length ≤ x → Ev (fun k => parcloselaw23_Refs.l0 k l acc (x : Int)) (acc ++ (l.drop x).map toRP) := by
 intro n
 induction n with
 | zero =>
  intro x acc hx ha
  refine Ev.step (f := fun _ => some acc) (fun k => by simp only [parcloselaw23_Refs.l0]; rw [if_neg (by omega)]) ?_
  rw [List.drop_of_length_le (by omega)]
  simp only [List.map_nil, List.append_nil]
  exact Ev.now _
 | succ n ih =>
  intro x acc hx ha
  refine Ev.step (f := fun k => parcloselaw23_Refs.l0 k l (acc ++ [toRP (l.getD x z65)]) ((x + 1 : Nat) : Int)) (fun k => by
   simp only [parcloselaw23_Refs.l0]
   rw [if_pos (by omega), if_pos (by omega), if_pos (by omega), show wrap64 ((x : Int) + 1) = ((x + 1 : Nat) : Int) by unfold wrap64; omega]
   rfl) ?_
  have h := ih (x + 1) (acc ++ [toRP (l.getD x z65)]) (by omega) (by simp; omega)
  rw [List.append_assoc] at h
  have e : l.drop x = l.getD x z65 :: l.drop (x + 1) := by rw [getD_lt l z65 (by omega)]; exact List.drop_eq_getElem_cons (by omega)
  rw [e, List.map_cons]
  exact h
theorem refsP_f (l : List S65) (hl : l.length ≤ 65536) : ∃ k, parcloselaw23_Refs.f k l = some (l.map toRP) := by
 have h := refsP_ev l hl l.length 0 [] (by omega) (by simp)
 simp only [List.nil_append, List.drop_zero] at h
 exact h.rounds
theorem sameP_ev (a b : List S64) (hl : a.length = b.length) (ha : a.length ≤ 100000) : ∀ (n x : Nat), x + n = a.length → Ev (fun k => parcloseref23_Same.l0 k a b (x : Int)) (decide (a.drop x = b.drop x)) := by
 intro n
 induction n with
 | zero =>
  intro x hx
  rw [List.drop_of_length_le (by omega), List.drop_of_length_le (by omega)]
  refine Ev.step (f := fun _ => some true) (fun k => by simp only [parcloseref23_Same.l0]; rw [if_neg (by omega)]) ?_
  exact Ev.now _
 | succ n ih =>
  intro x hx
  have ea : a.drop x = a.getD x z64 :: a.drop (x + 1) := by rw [getD_lt a z64 (by omega)]; exact List.drop_eq_getElem_cons (by omega)
  have eb : b.drop x = b.getD x z64 :: b.drop (x + 1) := by rw [getD_lt b z64 (by omega)]; exact List.drop_eq_getElem_cons (by omega)
  have ra : rd_T64 a (x : Int) = a.getD x z64 := by unfold rd_T64; rw [Int.toNat_natCast]
  have rb : rd_T64 b (x : Int) = b.getD x z64 := by unfold rd_T64; rw [Int.toNat_natCast]
  by_cases he : a.getD x z64 = b.getD x z64
  ·have hd : decide (a.drop x = b.drop x) = decide (a.drop (x + 1) = b.drop (x + 1)) := by rw [ea, eb, he]; simp
   rw [hd]
   refine Ev.step (f := fun k => parcloseref23_Same.l0 k a b ((x + 1 : Nat) : Int)) (fun k => by
    simp only [parcloseref23_Same.l0]
    rw [if_pos (by omega), if_pos (by omega), if_pos (by omega), ra, rb, he, if_neg (by simp), show wrap64 ((x : Int) + 1) = ((x + 1 : Nat) : Int) by unfold wrap64; omega]) (ih (x + 1) (by omega))
  ·have hd : decide (a.drop x = b.drop x) = false := decide_eq_false (by rw [ea, eb]; intro h; exact he (List.cons.inj h).1)
   rw [hd]
   refine Ev.step (f := fun _ => some false) (fun k => by
    simp only [parcloseref23_Same.l0]
    rw [if_pos (by omega), if_pos (by omega), if_pos (by omega), ra, rb, if_pos]
    have h4 : ¬ ((a.getD x z64).f0 = (b.getD x z64).f0 ∧ (a.getD x z64).f1 = (b.getD x z64).f1 ∧ (a.getD x z64).f2 = (b.getD x z64).f2 ∧ (a.getD x z64).f3 = (b.getD x z64).f3) := by
     rintro ⟨h0, h1, h2, h3⟩
     apply he
     cases h5 : a.getD x z64
     cases h6 : b.getD x z64
     simp_all
    simp only [Bool.or_eq_true, Bool.not_eq_true', beq_eq_false_iff_ne, ne_eq]
    omega) (Ev.now _)
theorem sameP_f (a b : List S64) (ha : a.length ≤ 100000) : ∃ k, parcloseref23_Same.f k a b = some (decide (a = b)) := by
 unfold parcloseref23_Same.f
 by_cases h : a.length = b.length
 ·have h2 := sameP_ev a b h ha a.length 0 (by omega)
  simp only [List.drop_zero] at h2
  obtain ⟨k, hk⟩ := h2.rounds
  exact ⟨k, by rw [if_pos (by omega)]; exact hk⟩
 ·exact ⟨0, by rw [if_neg (by omega), decide_eq_false (fun e => h (by rw [e]))]⟩
theorem prefs_calls (A : Option Addr) (c : Nat) (b : List S64) (w : World) (hr : Kd.C k65 w A b.length (b.map eP)) (hc : b.length ≤ c) (hl : b.length ≤ 65536) :
  Calls Try.prog 23 #[.slice A b.length c] w fun e w' => ∃ A' c', e = .returned (.slice A' b.length c') ∧ b.length ≤ c' ∧ Kd.C k64 w' A' b.length b ∧ Below w.heap.size w w' := by
 obtain ⟨k, hk⟩ := refsP_f (b.map eP) (by rw [List.length_map]; exact hl)
 have e2 : (b.map eP).map toRP = b := by rw [List.map_map]; exact List.map_id'' (fun x => rfl) b
 rw [e2] at hk
 have hL : (b.map eP).length = b.length := List.length_map _
 have h := parcloselaw23_Refs.calls k A c (b.map eP) b w (by rw [hL]; exact hr) (by rw [hL]; exact hc) hk
 rw [hL] at h
 refine h.mono ?_
 rintro e w1 ⟨v, rfl, hv, hb⟩
 obtain ⟨A', c', rfl, hc', hC'⟩ := Kd.R_reads hv
 exact ⟨A', c', rfl, hc', hC', hb⟩
theorem psame_calls (A0 : Option Addr) (c0 : Nat) (A1 : Option Addr) (c1 : Nat) (b : List S64) (w : World) (hr0 : Kd.C k64 w A0 b.length b) (hc0 : b.length ≤ c0) (hr1 : Kd.C k64 w A1 b.length b) (hc1 : b.length ≤ c1) (hl : b.length ≤ 65536) :
  Calls Try.prog 22 #[.slice A0 b.length c0, .slice A1 b.length c1] w fun e w' => e = .returned (.bool true) ∧ Below w.heap.size w w' := by
 obtain ⟨k, hk⟩ := sameP_f b b (by omega)
 rw [decide_eq_true rfl] at hk
 refine (parcloseref23_Same.calls k A0 c0 b A1 c1 b true w hr0 hc0 hr1 hc1 hk).mono ?_
 rintro e w1 ⟨rfl, hd⟩
 exact ⟨rfl, hd.below⟩
end Go.Proofs.Ytalimpniimgheaa.Fn
namespace Go.Proofs.Ytalimpniimgheaa.Fn
open Go.RowKit Go.Proofs.YtalimpniimgheaaW.PrintWords Go.Proofs.YtalimpniimgheaaW.PrintLast Go.Proofs.YtalimpniimgheaaW.PrintMore
set_option linter.unusedVariables false
set_option linter.unusedSimpArgs false
structure IsRR (w : World) (g : Nat) (er : Int) (A : Option Addr) (c : Nat) (bs : List Int) : Prop where
 blk : w.heap[g]? = some (.cells #[.slice A bs.length c, .int .i64 er] 153 (0, 0))
 row : Kd.C (Kd.int .u8) w A bs.length bs
 le : bs.length ≤ c
 ne : ∀ ad, A = some ad → ad.block ≠ g
 by_ : Bytes bs
def RRAfter (w w' : World) (g : Nat) (A0 : Option Addr) (er : Int) (bs : List Int) : Prop := ∃ A' c', IsRR w' g er A' c' bs ∧ Chg (fun k => k = g) w w' ∧ ∀ ad, A' = some ad → ∃ ad0, A0 = some ad0 ∧ ad.block = ad0.block
section
variable {w w1 : World} {g c : Nat} {er : Int} {A : Option Addr} {bs : List Int}
theorem IsRR.below (h : IsRR w g er A c bs) (hb : Below w.heap.size w w1) : IsRR w1 g er A c bs := ⟨blk_below h.blk hb, Kd.C_below h.row hb, h.le, h.ne, h.by_⟩
theorem IsRR.chg {S : Nat → Prop} (h : IsRR w g er A c bs) (hk : Chg S w w1) (hg : ¬ S g) (hS : ∀ ad, A = some ad → ¬ S ad.block) : IsRR w1 g er A c bs := ⟨blk_chg h.blk hk hg, C_chgN h.row hk (fun ad ha _ => hS ad ha), h.le, h.ne, h.by_⟩
theorem IsRR.setE (h : IsRR w g er A c bs) (x : Int) : IsRR (w.setCell ⟨g, 1, none⟩ (.int .i64 x)) g x A c bs := by
 refine ⟨?_, C_chgN h.row ((Chg.refl (fun k => k = g) w).set_ (p := ⟨g, 1, none⟩) (.inl rfl) _) (fun ad ha _ => h.ne ad ha), h.le, h.ne, h.by_⟩
 have h2 := blk_set h.blk 1 (.int .i64 x)
 simpa only [List.setIfInBounds_toArray, List.set_cons_succ, List.set_cons_zero] using h2
theorem IsRR.move (h : IsRR w g er A c bs) (s : Nat) (hs : s ≤ bs.length) : IsRR (w.setCell ⟨g, 0, none⟩ (.slice (if c = s then A else A.map (·.add (s * 1))) (bs.length - s) (c - s))) g er (if c = s then A else A.map (·.add (s * 1))) (c - s) (bs.drop s) := by
 have hl : (bs.drop s).length = bs.length - s := List.length_drop
 have hd := Kd.C_drop h.row (m := s) hs h.le
 have hne : ∀ ad, (if c = s then A else A.map (·.add (s * 1))) = some ad → ad.block ≠ g := by
  intro ad ha
  split at ha
  ·exact h.ne ad ha
  ·cases hA : A with
   | none => rw [hA] at ha; cases ha
   | some a =>
    rw [hA] at ha
    have ha2 := Option.some.inj ha
    rw [← ha2]
    have : (a.add (s * 1)).block = a.block := by unfold Addr.add; split <;> rfl
    rw [this]
    exact h.ne a hA
 refine ⟨?_, C_chgN hd ((Chg.refl (fun k => k = g) w).set_ (p := ⟨g, 0, none⟩) (.inl rfl) _) (fun ad ha _ => hne ad ha), by have := h.le; omega, hne, h.by_.drop s⟩
 have h2 := blk_set h.blk 0 (.slice (if c = s then A else A.map (·.add (s * 1))) (bs.length - s) (c - s))
 rw [hl]
 simpa only [List.setIfInBounds_toArray, List.set_cons_zero] using h2
end
set_option maxHeartbeats 8000000 in
set_option maxRecDepth 100000 in
theorem rGet_calls (w : World) (g : Nat) (er : Int) (A0 : Option Addr) (c : Nat) (bs : List Int) (sz : Int) (s : Nat) (hs : sz = (s : Int)) (h1 : 1 ≤ s) (h7 : s ≤ 7) (h : IsRR w g er A0 c bs) (hl : bs.length ≤ 1000000) :
  Calls Try.prog 100 #[.pointer (some ⟨g, 0, none⟩), .int .i64 sz] w fun e w' => e = .returned (.int .i64 (getS s (er, bs)).1) ∧ RRAfter w w' g A0 (getS s (er, bs)).2.1 (getS s (er, bs)).2.2 := by
 subst hs
 have hu := Try.underlying153
 have hu2 := Try.underlying5
 have hx0 := (blk_cell h.blk 0).trans rfl
 have hx1 := (blk_cell h.blk 1).trans rfl
 have H := asd h
 have HL := asd hl
 have HS := asd (And.intro h1 h7)
 have z1 : decide ((s : Int) < 1) = false := decide_eq_false (by omega)
 have z2 : decide (s < 1) = false := decide_eq_false (by omega)
 have z7 : decide ((s : Int) > 7) = false := decide_eq_false (by omega)
 have z8 : decide (7 < (s : Int)) = false := z7
 have z9 : decide (7 < s) = false := decide_eq_false (by omega)
 clear h hl
 by_cases he : er = 0
 ·subst he
  by_cases hlt : bs.length < s
  ·have d1 : decide ((bs.length : Int) < (s : Int)) = true := decide_eq_true (by omega)
   have d2 : decide (bs.length < s) = true := decide_eq_true hlt
   have hfz := blk_frozen H.out.blk 1
   rw [getS_short hlt]
   clear hlt h1 h7
   go_enter Try.func100, Try.ntmps100
   go_wp2
   go_ret
   exact ⟨rfl, A0, c, H.out.setE 11, (Chg.refl (fun k => k = g) w).set_ (p := ⟨g, 1, none⟩) (.inl rfl) _, fun ad ha => ⟨ad, ha, rfl⟩⟩
  ·have d1 : decide ((bs.length : Int) < (s : Int)) = false := decide_eq_false (by omega)
   have d2 : decide (bs.length < s) = false := decide_eq_false hlt
   have hsl : s ≤ bs.length := by omega
   rw [getS_ok hsl]
   have HSL := asd hsl
   have hlec := H.out.le
   have p0 : (0 ≤ (s : Int)) = True := eq_true (by omega)
   have p1 : ((s : Int) ≤ (c : Int)) = True := eq_true (by omega)
   have p2 : (s ≤ c) = True := eq_true (by omega)
   have p3 : ((s : Int) ≤ (bs.length : Int)) = True := eq_true (by omega)
   have p4 : (s ≤ bs.length) = True := eq_true hsl
   obtain ⟨ib, hib, hzb⟩ := Option.map_eq_some_iff.1 info5
   have hcut : ∀ W : World, (Instr.slice 78 (.slice A0 bs.length c) (some (.int .i64 (s : Int))) none none).run Try.prog W = .ok (.slice (if c = s then A0 else A0.map (·.add (s * 1))) (bs.length - s) (c - s)) W :=
    cut_from (P := Try.prog) 78 5 .i64 Try.underlying78 hib 1 (by simp only [Prod.mk.injEq] at hzb; exact hzb.2.1) A0 bs.length c s (by omega) (by omega)
   have RW := asd H.out.row
   have BY := asd H.out.by_
   have hfz := blk_frozen H.out.blk 0
   have MV := asd (H.out.move s hsl)
   have AD : Aside0 (∀ ad, (if c = s then A0 else A0.map (·.add (s * 1))) = some ad → ∃ ad0, A0 = some ad0 ∧ ad.block = ad0.block) := ⟨by
    intro ad ha
    split at ha
    ·exact ⟨ad, ha, rfl⟩
    ·cases A0 with
     | none => cases ha
     | some a =>
      have ha2 := Option.some.inj ha
      exact ⟨a, rfl, by rw [← ha2]; unfold Addr.add; split <;> rfl⟩⟩
   generalize hsA : (if c = s then A0 else A0.map (·.add (s * 1))) = sA at hcut MV AD
   clear hlt h1 h7 hsl hlec hib hzb hsA
   go_enter Try.func100, Try.ntmps100
   go_wp2
   go_loop [5, 6] (fun v5 v6 => ∃ i : Nat, v6 = .int .i64 i ∧ v5 = .int .i64 (valB (bs.take i)) ∧ Aside0 (i ≤ s)) (fun _ v => 8 - (intOf v).toNat)
   case atStart => exact ⟨0, rfl, rfl, ⟨Nat.zero_le _⟩⟩
   case round =>
    obtain ⟨i, rfl, rfl, HX⟩ := hrel
    have i99 : (i : Int) ≤ 7 := by have := HX.out; have := HS.out; omega
    by_cases hi : i < s
    ·have q0 : ((i : Int) < (s : Int)) = True := eq_true (by omega)
     have q1 : decide ((i : Int) < (s : Int)) = true := decide_eq_true (by omega)
     have q2 : decide (i < s) = true := decide_eq_true hi
     have hib : i < bs.length := by have := HSL.out; omega
     have hin : ((i : Int) < (bs.length : Int)) = True := eq_true (by omega)
     have hin2 : (i < bs.length) = True := eq_true hib
     obtain ⟨ad, cc, rfl, _, hK, hc0⟩ := Kd.C_get RW.out 0 (i : Int) (by omega) (by omega)
     have ee : cc = [.int .u8 (bs.getD i 0)] := by rw [Int.toNat_natCast] at hK; exact hK
     subst ee
     have y0 : w.cell? (ad.add i) = some (.int .u8 (bs.getD i 0)) := by have h := hc0 0 _ rfl; rw [Int.toNat_natCast] at h; rwa [show i * (Kd.int .u8).sz + 0 = i from Nat.mul_one _] at h
     have hbd := valB_bd (bs.take i) (BY.out.take i)
     rw [List.length_take, Nat.min_eq_left (by omega)] at hbd
     have hp6 : (256 : Int) ^ i ≤ 281474976710656 := by
      rcases (by have := HS.out; omega : i = 0 ∨ i = 1 ∨ i = 2 ∨ i = 3 ∨ i = 4 ∨ i = 5 ∨ i = 6) with rfl | rfl | rfl | rfl | rfl | rfl | rfl <;> decide
     have hby := BY.out (bs.getD i 0) (by rw [List.getD_eq_getElem?_getD, List.getElem?_eq_getElem hib]; exact List.getElem_mem _)
     have VS : Aside0 (valB (bs.take (i + 1)) = valB (bs.take i) * 256 + bs.getD i 0) := ⟨by
      rw [List.take_succ_eq_append_getElem hib, valB_snoc]; simp [List.getD, hib]⟩
     generalize valB (bs.take i) = v at hbd VS ⊢
     generalize bs.getD i 0 = b at y0 hby VS
     have v0 : 0 ≤ v := hbd.1
     have v9 : v < 281474976710656 := by omega
     have b0 : 0 ≤ b := hby.1
     have b9 : b < 256 := hby.2
     have cv : IntKind.i64.wrap b = b := by rw [i64_w]; unfold wrap64; omega
     have wv : IntKind.i64.wrap (256 * v) = 256 * v := by rw [i64_w]; unfold wrap64; omega
     have wv2 : IntKind.i64.wrap (256 * v + b) = 256 * v + b := by rw [i64_w]; unfold wrap64; omega
     clear hbd hp6 hby hc0 hK hi hib
     go_wp2
     go_round
     case rel => exact ⟨i + 1, by go_num, by rw [VS.out]; first | (rw [Int.mul_comm]; done) | go_num | (congr 1; omega), ⟨by have := q2; simp at this; omega⟩⟩
     case measure => simp [intOf]; omega
    ·have q1 : decide ((i : Int) < (s : Int)) = false := decide_eq_false (by omega)
     have q2 : decide (i < s) = false := decide_eq_false hi
     obtain rfl : i = s := by have := HX.out; omega
     clear hi
     go_wp2
     go_ret
     exact ⟨rfl, sA, c - i, MV.out, (Chg.refl (fun k => k = g) w).set_ (p := ⟨g, 0, none⟩) (.inl rfl) _, AD.out⟩
 ·have b0 : (er == 0) = false := beq_eq_false_iff_ne.2 he
  have b1 : (er != 0) = true := by simpa using he
  rw [getS_err (show (er, bs).1 ≠ 0 from he)]
  clear he hx0 h1 h7
  go_enter Try.func100, Try.ntmps100
  go_wp2
  go_ret
  exact ⟨rfl, A0, c, H.out, Chg.refl _ _, fun ad ha => ⟨ad, ha, rfl⟩⟩
end Go.Proofs.Ytalimpniimgheaa.Fn
namespace Go.Proofs.Ytalimpniimgheaa.Fn
open Go.RowKit Go.Proofs.YtalimpniimgheaaW.PrintWords Go.Proofs.YtalimpniimgheaaW.PrintLast Go.Proofs.YtalimpniimgheaaW.PrintMore
set_option linter.unusedVariables false
set_option linter.unusedSimpArgs false
def toRG (x : S65) : S64 := ⟨x.f0, x.f1, x.f2, x.f3⟩
def RGetAns (w w' : World) (e : Ending) (r : List S65 × Int) : Prop := ∃ A' c', e = .returned (.tuple #[.slice A' r.1.length c', .int .i64 r.2]) ∧ r.1.length ≤ c' ∧ Kd.C k64 w' A' r.1.length (r.1.map toRG) ∧ Below w.heap.size w w'
def tickR (s : GS) (q : Int) : Int × GS := if q = 0 then ((s.get 7).1, (s.get 7).2.refuse ((s.get 7).1 == s.last || (s.get 7).1 == s.last + 1)) else (s.last, s)
def bigR (s : GS) (q tick : Int) : GS := { s with odd := s.odd || (q == 3) || decide (72057594037927936 ≤ tick) }
theorem tickR_last (s : GS) (q : Int) : (tickR s q).2.last = s.last := by unfold tickR GS.get GS.refuse; split <;> rfl
theorem entG_eq (s : GS) (hd : Int) (s1 : GS) (q : Int) (h1 : s.get 1 = (hd, s1)) (hq : hd / 64 = q) (q0 : 0 ≤ q) (q9 : q < 4) :
  entG s = (⟨if q = 2 then s1.last + 1 else (tickR s1 q).1, hd % 16, (numG (bigR (tickR s1 q).2 q (if q = 2 then s1.last + 1 else (tickR s1 q).1)) (hd / 16 % 2 == 0)).1, (numG (numG (bigR (tickR s1 q).2 q (if q = 2 then s1.last + 1 else (tickR s1 q).1)) (hd / 16 % 2 == 0)).2 (hd / 32 % 2 == 0)).1⟩,
   { (numG (numG (bigR (tickR s1 q).2 q (if q = 2 then s1.last + 1 else (tickR s1 q).1)) (hd / 16 % 2 == 0)).2 (hd / 32 % 2 == 0)).2 with last := if q = 2 then s1.last + 1 else (tickR s1 q).1 }) := by
 have hb : bigG (tickG s1 hd).2 (tickG s1 hd).1 = bigR (tickR s1 q).2 q (if q = 2 then s1.last + 1 else (tickR s1 q).1) ∧ (tickG s1 hd).1 = (if q = 2 then s1.last + 1 else (tickR s1 q).1) := by
  have e4 : q % 4 = q := by omega
  unfold tickG tickR bigG bigR
  rw [hq, e4]
  rcases (by omega : q = 0 ∨ q = 1 ∨ q = 2 ∨ q = 3) with rfl | rfl | rfl | rfl <;> simp
 unfold entG
 simp only [h1]
 simp only [hb.1]
 simp only [hb.2]
def MidG (wr wx : World) (g ge : Nat) (A0 : Option Addr) (tk kd a b : Int) (s : GS) : Prop := ∃ A c, IsRR wx g s.er A c s.bs ∧ wx.heap[ge]? = some (.cells #[.int .i64 tk, .int .i64 kd, .int .i64 a, .int .i64 b] 64 (0, 0)) ∧ Chg (fun k => k = g) wr wx ∧ ∀ ad, A = some ad → ∃ ad0, A0 = some ad0 ∧ ad.block = ad0.block
theorem RRAfter.mid {wr wx w' : World} {g ge : Nat} {A0 A : Option Addr} {er tk kd a b : Int} {bs : List Int} {last : Int} {odd : Bool} (h : RRAfter wx w' g A er bs) (he : wx.heap[ge]? = some (.cells #[.int .i64 tk, .int .i64 kd, .int .i64 a, .int .i64 b] 64 (0, 0))) (hne : ge ≠ g) (hc : Chg (fun k => k = g) wr wx) (ha : ∀ ad, A = some ad → ∃ ad0, A0 = some ad0 ∧ ad.block = ad0.block) : MidG wr w' g ge A0 tk kd a b ⟨er, bs, last, odd⟩ := by
 obtain ⟨A', c', h1, h2, h3⟩ := h
 exact ⟨A', c', h1, blk_chg he h2 hne, hc.trans h2, fun ad q => by
  obtain ⟨ad1, q1, q2⟩ := h3 ad q
  obtain ⟨ad0, q3, q4⟩ := ha ad1 q1
  exact ⟨ad0, q3, q2.trans q4⟩⟩
theorem MidG.put {wr wx : World} {g ge : Nat} {A0 : Option Addr} {tk kd a b tk' kd' a' b' : Int} {s s' : GS} (h : MidG wr wx g ge A0 tk kd a b s) (hne : ge ≠ g) (hA : ∀ ad, A0 = some ad → ad.block ≠ ge) (hge : wr.heap.size ≤ ge) (j : Nat) (n : Int) (hs : s'.er = s.er ∧ s'.bs = s.bs)
  (hj : (#[.int .i64 tk, .int .i64 kd, .int .i64 a, .int .i64 b] : Array Value).setIfInBounds j (.int .i64 n) = #[.int .i64 tk', .int .i64 kd', .int .i64 a', .int .i64 b']) : MidG wr (wx.setCell ⟨ge, j, none⟩ (.int .i64 n)) g ge A0 tk' kd' a' b' s' := by
 obtain ⟨A, c, h1, h2, h3, h4⟩ := h
 refine ⟨A, c, ?_, ?_, h3.set_ (p := ⟨ge, j, none⟩) (.inr hge) _, h4⟩
 ·rw [hs.1, hs.2]
  exact h1.chg ((Chg.refl (fun k => k = ge) wx).set_ (p := ⟨ge, j, none⟩) (.inl rfl) _) (fun q => hne q.symm) (fun ad q e => by
   obtain ⟨ad0, q3, q4⟩ := h4 ad q
   exact hA ad0 q3 (q4 ▸ e))
 ·have h5 := blk_set h2 j (.int .i64 n)
  rw [hj] at h5
  exact h5
theorem get7_nn {s : GS} (h : Bytes s.bs) : 0 ≤ (s.get 7).1 ∧ (s.get 7).1 < 72057594037927936 ∧ Bytes (s.get 7).2.bs ∧ (s.get 7).2.bs.length ≤ s.bs.length := by
 have h1 := getS_bd 7 (by omega) (s.er, s.bs) h
 have e : (256 : Int) ^ 7 = 72057594037927936 := by decide
 exact ⟨h1.1, by rw [← e]; exact h1.2.1, h1.2.2.1, h1.2.2.2⟩
end Go.Proofs.Ytalimpniimgheaa.Fn
namespace Go.Proofs.Ytalimpniimgheaa.Fn
open Go.RowKit Go.Proofs.YtalimpniimgheaaW.PrintWords Go.Proofs.YtalimpniimgheaaW.PrintLast Go.Proofs.YtalimpniimgheaaW.PrintMore
set_option linter.unusedVariables false
set_option linter.unusedSimpArgs false
set_option maxHeartbeats 32000000 in
set_option maxRecDepth 100000 in
theorem rrGet_calls (A0 : Option Addr) (c0 : Nat) (b : List Int) (w : World) (hr : Kd.C (Kd.int .u8) w A0 b.length b) (hc : b.length ≤ c0) (hb : Bytes b) (hl : b.length ≤ 100000) :
  Calls Try.prog 62 #[.slice A0 b.length c0] w fun e w' => RGetAns w w' e (getP b) := by
 have hu := Try.underlying153
 have hu64 := Try.underlying64
 have HR := asd hr
 have HC := asd hc
 have HBY := asd hb
 have HL := asd hl
 have b99 : (b.length : Int) ≤ 100000 := by omega
 generalize hg4 : getS 4 (0, b) = r4
 obtain ⟨n, er, bs⟩ := r4
 have N4 : Aside0 (0 ≤ n ∧ n < 4294967296 ∧ Bytes bs ∧ bs.length ≤ b.length) := ⟨by
  have h := getS_bd 4 (by omega) (0, b) hb
  rw [hg4] at h
  have e : (256 : Int) ^ 4 = 4294967296 := by decide
  exact ⟨h.1, by rw [← e]; exact h.2.1, h.2.2⟩⟩
 have n0 := N4.out.1
 have n9 := N4.out.2.1
 have G4 := asd hg4
 clear hr hc hb hl hg4
 go_enter Try.func62, Try.ntmps62
 go_wp2_with (first | ((with_reducible refine gate_dst (N := 14) rfl ?_); refine Kd.R_lit (Kd.int .u8) _ 5 ?hg (N := 14) ?hd (xs := ([] : List Int)) (inner := []) (ok := fun _ => True) (okp := fun _ => True) ?hr ?hp (fun _ hk => hk) trivial (Below.refl _ _) (Nat.le_refl _) (by simp) ?_; (case hd => rfl); (case hg => rfl); (case hr => first | (go_simp; done) | (go_simp; rfl)); (case hp => exact (Reps.none _ _)); intro v1 w1 ho hb hg hat; have HO := asd ho; have HB := asd hb; clear ho hb hg hat) | ((with_reducible refine gate_builtin (b := .append) (xs := #[.tmp 14, .tmp 15]) rfl ?_); at_builtin; refine Kd.R_append_rows (Kd.int .u8) (w0 := w) w.heap.size rfl (.tmp 14) (.tmp 15) 78 5 (.int .u8 0) 1 rfl Try.underlying78 info5 rfl (by decide) (by omega) v1 [] b _ _ _ (fun _ => True) (fun _ => False) rfl rfl ?aO ?aR (fun _ _ h => h) (fun _ h => h.elim) ?aF ?aB ?aS ?aL ?_; (case aR => exact Kd.C_below HR.out HB.out); (case aB => exact HB.out); (case aF => exact (fun _ _ => trivial)); (case aO => exact HO.out); (case aS => exact HB.out.size); (case aL => have := HL.out; simp only [List.length_nil]; omega); intro v2 w1 ho2 hb2 hg2 hat2; obtain ⟨A1, c1, rfl⟩ := Kd.R_slice ho2; have HO2 := asd ho2; have HB1 := asd hb2; clear ho2 hb2 hg2 hat2))
 have H2 : Aside0 (IsRR (w1.alloc (.cells #[.slice A1 b.length c1, .int .i64 0] 153)) w1.heap.size 0 A1 c1 b) := ⟨⟨heap_alloc_new w1 _, Kd.C_below (C_ofR HO2.out) (below_alloc (Below.refl _ _) _), (Kd.R_reads' HO2.out).2.1, fun ad ha => by
  have := Kd.R_lt HO2.out ad.block (by rw [ha]; simp [Value.ownBlock]); omega, HBY.out⟩⟩
 have LT : Aside0 ((w1.alloc (.cells #[.slice A1 b.length c1, .int .i64 0] 153)).heap.size = w1.heap.size + 1 ∧ w.heap.size ≤ w1.heap.size ∧ (∀ ad, A1 = some ad → ad.block < w1.heap.size)) := ⟨alloc_size1 _ _, HB1.out.size, fun ad ha => Kd.R_lt HO2.out ad.block (by rw [ha]; simp [Value.ownBlock])⟩
 have HB2 := asd (below_step HB1.out (below_alloc (Below.refl _ _) (.cells #[.slice A1 b.length c1, .int .i64 0] 153)))
 clear HO HB HO2 HB1
 generalize w1.alloc (.cells #[.slice A1 b.length c1, .int .i64 0] 153) = w2 at H2 LT HB2 ⊢
 generalize w1.heap.size = g at H2 LT ⊢
 have GC := rGet_calls w2 g 0 A1 c1 b 4 4 rfl (by omega) (by omega) H2.out (by have := HL.out; omega)
 rw [G4.out] at GC
 refine GC.mono ?_
 rintro e w3 ⟨rfl, A3, c3, h3, hc3, ha3⟩
 have H3 := asd h3
 have AD3 : Aside0 (∀ ad, A3 = some ad → ad.block < g) := ⟨fun ad q => by
  obtain ⟨ad0, q1, q2⟩ := ha3 ad q
  rw [q2]; exact LT.out.2.2 ad0 q1⟩
 have HB3 : Aside0 (Below w.heap.size w w3) := ⟨((Chg.of_belowB HB2.out).then_ hc3 (fun k hk => .inl (by have := LT.out; omega))).to_below (fun _ h => h) (Nat.le_refl _)⟩
 have dge : decide (n > 65536) = decide (65536 < n) := rfl
 obtain ⟨B2, hB2⟩ : ∃ B2, g + 1 = B2 := ⟨_, rfl⟩
 have SZ3 : Aside0 (B2 ≤ w3.heap.size) := ⟨by have := hc3.size; have := LT.out.1; omega⟩
 have LT := asd (show g < B2 ∧ w.heap.size ≤ g ∧ w.heap.size ≤ B2 from ⟨by omega, LT.out.2.1, by have := LT.out.2.1; omega⟩)
 clear GC h3 hc3 ha3 H2 HB2 hB2
 generalize hod : decide (65536 < n) = od at dge
 have OD0 := asd hod
 have S0 : Aside0 (Rest n.toNat ⟨er, bs, 0, od⟩ [] n.toNat ⟨er, bs, 0, od⟩) := ⟨by unfold Rest; simp⟩
 clear hod
 go_upto_block 0 with fail
 go_cut [6, 7, 8, 9] (fun s6 s7 s8 s9 wx => ∃ (out : List S65) (s : GS) (A : Option Addr) (c : Nat) (Ao : Option Addr) (co : Nat), s6 = .slice Ao out.length co ∧ s8 = .bool s.odd ∧ Aside0 (loopG n.toNat ⟨er, bs, 0, od⟩ = (out, s)) ∧ Aside0 (IsRR wx g s.er A c s.bs ∧ s.bs.length ≤ b.length) ∧ Aside0 (k64.R 64 wx B2 (fun _ => True) (.slice Ao out.length co) (out.map toRG)) ∧ Aside0 (Below w.heap.size w wx))
 case first =>
  go_wp2_with fail
  go_loopg [6, 7, 8, 9] n.toNat (fun gh v6 v7 v8 v9 wr => ∃ (i : Nat) (out : List S65) (s : GS) (A : Option Addr) (c : Nat) (Ao : Option Addr) (co : Nat), gh = n.toNat - i ∧ v6 = .slice Ao out.length co ∧ v7 = .int .i64 s.last ∧ v8 = .bool s.odd ∧ v9 = .int .i64 i ∧ Aside0 ((i : Int) ≤ n ∧ out.length = i ∧ i ≤ 65536 ∧ (s.odd = false → n ≤ 65536)) ∧ Aside0 (s.odd = false → 0 ≤ s.last ∧ s.last < 72057594037927936) ∧ Aside0 (IsRR wr g s.er A c s.bs ∧ s.bs.length ≤ b.length ∧ ∀ ad, A = some ad → ad.block < g) ∧ Aside0 (Rest n.toNat ⟨er, bs, 0, od⟩ out (n.toNat - i) s) ∧ Aside0 (k64.R 64 wr B2 (fun _ => True) (.slice Ao out.length co) (out.map toRG)) ∧ Aside0 (Below w.heap.size w wr) ∧ Aside0 (B2 ≤ wr.heap.size))
  case atStart => exact ⟨0, [], ⟨er, bs, 0, od⟩, A3, c3, none, 0, rfl, rfl, rfl, (by rw [show decide (65536 < n) = od from OD0.out]), rfl, ⟨by omega, rfl, by omega, fun h => by have := OD0.out; rw [show od = false from h] at this; have := of_decide_eq_false this; omega⟩, ⟨fun _ => ⟨by simp, by simp⟩⟩, ⟨H3.out, N4.out.2.2.2, AD3.out⟩, S0, ⟨Kd.R_nil _ _ _ _ _⟩, HB3, SZ3⟩
  case round =>
   clear H3 HB3 S0 SZ3 AD3
   obtain ⟨i, out, s, A, c, Ao, co, rfl, rfl, rfl, rfl, rfl, HX, HLA, HS, RS, RO, HB, SZ⟩ := hrel
   obtain ⟨ser, sbs, slast, sodd⟩ := s
   have hp1 := (blk_cell HS.out.1.blk 1).trans rfl
   have i99 : (i : Int) ≤ 65536 := by have := HX.out.2.2.1; omega
   by_cases hgo : (i : Int) < n ∧ ser = 0 ∧ sodd = false
   ·obtain ⟨hin, rfl, rfl⟩ := hgo
    have q1 : decide ((i : Int) < n) = true := decide_eq_true hin
    have HN := asd (show (i : Int) < n ∧ n ≤ 65536 from ⟨hin, HX.out.2.2.2 rfl⟩)
    have LA := asd (HLA.out rfl)
    have LS : Aside0 (sbs.length ≤ 100000) := ⟨by have h1 : sbs.length ≤ b.length := HS.out.2.1; have := HL.out; omega⟩
    have ST : Aside0 (Rest n.toNat ⟨er, bs, 0, od⟩ (out ++ [(entG ⟨0, sbs, slast, false⟩).1]) (n.toNat - (i + 1)) (entG ⟨0, sbs, slast, false⟩).2) := ⟨by
     have h := RS.out
     rw [show n.toNat - i = (n.toNat - (i + 1)) + 1 by omega] at h
     exact h.step rfl rfl⟩
    have EN := asd (entG_nn (s := ⟨0, sbs, slast, false⟩) (n := b.length) ⟨HS.out.1.by_, HS.out.2.1, LA.out.1, LA.out.2⟩)
    have EO := asd (entG_odd ⟨0, sbs, slast, false⟩)
    have GC := asd (rGet_calls wr g 0 A c sbs 1 1 rfl (by omega) (by omega) HS.out.1 (by have := LS.out; omega))
    have EQ := asd (fun hd s1 q h1 hq q0 q9 => entG_eq ⟨0, sbs, slast, false⟩ hd s1 q h1 hq q0 q9)
    generalize entG ⟨0, sbs, slast, false⟩ = es at ST EN EO EQ
    have S0 := asd (getS_bd 1 (by omega) (0, sbs) HS.out.1.by_)
    have G1 : Aside0 ((⟨0, sbs, slast, false⟩ : GS).get 1 = ((getS 1 (0, sbs)).1, ⟨(getS 1 (0, sbs)).2.1, (getS 1 (0, sbs)).2.2, slast, false⟩)) := ⟨rfl⟩
    generalize getS 1 (0, sbs) = r1 at GC S0 G1
    obtain ⟨hd, er1, bs1⟩ := r1
    have S1 : Aside0 (0 ≤ hd ∧ hd < 256 ∧ Bytes bs1 ∧ bs1.length ≤ sbs.length) := ⟨S0.out.1, by simpa using S0.out.2.1, S0.out.2.2⟩
    have h0 := S1.out.1
    have h9 := S1.out.2.1
    obtain ⟨q, hq⟩ : ∃ q, hd / 64 = q := ⟨_, rfl⟩
    have QE := asd hq
    have Q4 : Aside0 (0 ≤ q ∧ q < 4) := ⟨by omega⟩
    have TE0 := EQ.out hd ⟨er1, bs1, slast, false⟩ q G1.out hq Q4.out.1 Q4.out.2
    clear EQ hq S0 G1
    have TL := tickR_last ⟨er1, bs1, slast, false⟩ q
    have TBD : ∀ r2, tickR ⟨er1, bs1, slast, false⟩ q = r2 → 0 ≤ r2.1 ∧ r2.1 < 72057594037927936 ∧ Bytes r2.2.bs ∧ r2.2.bs.length ≤ sbs.length := fun r2 h => by
     subst h
     unfold tickR
     split
     ·have h7 := get7_nn (s := ⟨er1, bs1, slast, false⟩) S1.out.2.2.1
      exact ⟨h7.1, h7.2.1, h7.2.2.1, Nat.le_trans h7.2.2.2 S1.out.2.2.2⟩
     ·exact ⟨LA.out.1, LA.out.2, S1.out.2.2⟩
    generalize hT : tickR ⟨er1, bs1, slast, false⟩ q = r2 at TE0 TL
    have S2' := TBD r2 hT
    clear TBD
    obtain ⟨tk1, er2, bs2, last2, odd2⟩ := r2
    have TE := asd hT
    have TL2 : Aside0 (last2 = slast) := ⟨TL⟩
    have S2 : Aside0 (Bytes bs2 ∧ bs2.length ≤ sbs.length) := ⟨S2'.2.2⟩
    simp only at TE0
    generalize hk2 : (if q = 2 then slast + 1 else tk1) = tk2 at TE0
    have K2 := asd hk2
    have KB : Aside0 (0 ≤ tk2 ∧ tk2 ≤ 72057594037927936) := ⟨by rw [← hk2]; have := LA.out; have := S2'.1; have := S2'.2.1; split <;> simp only at * <;> omega⟩
    have t0 := KB.out.1
    have t9 := KB.out.2
    clear hT TL S2' hk2
    unfold bigR at TE0
    simp only at TE0
    generalize hO3 : (odd2 || (q == 3) || decide (72057594037927936 ≤ tk2)) = odd3 at TE0
    have O3 := asd hO3
    obtain ⟨ta, hta⟩ : ∃ ta, hd / 16 % 2 = ta := ⟨_, rfl⟩
    obtain ⟨tb, htb⟩ : ∃ tb, hd / 32 % 2 = tb := ⟨_, rfl⟩
    rw [hta, htb] at TE0
    have TA := asd hta
    have TB := asd htb
    clear hO3 hta htb
    have NBD : ∀ (s : GS) (t : Bool) (k : Nat) r, numG s t = r → Bytes s.bs → s.bs.length ≤ k → Bytes r.2.bs ∧ r.2.bs.length ≤ k := fun s t k r h hb hk => by
     subst h
     unfold numG
     split
     ·have h7 := get7_nn (s := s) hb
      exact ⟨h7.2.2.1, Nat.le_trans h7.2.2.2 hk⟩
     ·exact ⟨hb, hk⟩
    have NLA : ∀ (s : GS) (t : Bool) r, numG s t = r → r.2.last = s.last := fun s t r h => by
     subst h
     unfold numG GS.get GS.refuse
     split <;> rfl
    generalize hNA : numG ⟨er2, bs2, last2, odd3⟩ (ta == 0) = ra at TE0
    have SA' := NBD _ _ sbs.length _ hNA S2.out.1 S2.out.2
    have LA' := NLA _ _ _ hNA
    obtain ⟨na, er4, bs4, last4, odd4⟩ := ra
    obtain rfl : last2 = last4 := LA'.symm
    have S4 : Aside0 (Bytes bs4 ∧ bs4.length ≤ sbs.length) := ⟨SA'⟩
    have NA := asd hNA
    simp only at TE0
    generalize hNB : numG ⟨er4, bs4, last2, odd4⟩ (tb == 0) = rb at TE0
    have LB' := NLA _ _ _ hNB
    obtain ⟨nb, er5, bs5, last5, odd5⟩ := rb
    obtain rfl : last2 = last5 := LB'.symm
    have NB := asd hNB
    simp only at TE0
    subst TE0
    clear hNA hNB SA' NBD NLA RS HLA hin
    have tm : Int.tmod hd 16 = hd % 16 := Int.tmod_eq_emod_of_nonneg h0
    have tdq : Int.tdiv hd 64 = q := by rw [Int.tdiv_eq_ediv_of_nonneg h0]; exact QE.out
    have wq : wrap64 q = q := by have := Q4.out; unfold wrap64; omega
    go_wp2_with fail
    refine GC.out.mono ?_
    rintro e w5 ⟨rfl, ra⟩
    have NE : Aside0 (w5.heap.size ≠ g ∧ wr.heap.size ≤ w5.heap.size ∧ ∀ ad, A = some ad → ad.block ≠ w5.heap.size) := ⟨by
     obtain ⟨A6, c6, h6, hc6, ha6⟩ := ra
     have hk := hc6.size
     have hg := blk_lt h6.blk
     refine ⟨by omega, hk, fun ad q => ?_⟩
     have h1 := HS.out.2.2 ad q
     have h2 := SZ.out
     omega⟩
    have M0 : Aside0 (MidG wr (w5.alloc (.cells #[.int .i64 slast, .int .i64 (hd % 16), .int .i64 0, .int .i64 0] 64)) g w5.heap.size A slast (hd % 16) 0 0 ⟨er1, bs1, slast, false⟩) := ⟨by
     obtain ⟨A6, c6, h6, hc6, ha6⟩ := ra
     exact ⟨A6, c6, h6.below (below_alloc (Below.refl _ _) _), heap_alloc_new _ _, hc6.alloc _, ha6⟩⟩
    clear ra GC hp1
    go_upto_if 47 with fail
    generalize w5.alloc (.cells #[.int .i64 slast, .int .i64 (hd % 16), .int .i64 0, .int .i64 0] 64) = w6 at M0 ⊢
    generalize w5.heap.size = ge at M0 NE ⊢
    go_cut [8] (fun s8 wx => s8 = .bool odd2 ∧ Aside0 (MidG wr wx g ge A tk1 (hd % 16) 0 0 ⟨er2, bs2, last2, odd2⟩))
    case first =>
     obtain ⟨A6, c6, h6, he6, hc6, ha6⟩ := M0.out
     by_cases hq0 : q = 0
     ·have d0 : (q == 0) = true := beq_iff_eq.2 hq0
      have hN := TE.out
      unfold tickR GS.get GS.refuse at hN
      rw [if_pos hq0] at hN
      simp only at hN
      have hbd := getS_bd 7 (by omega) (er1, bs1) S1.out.2.2.1
      have RC := asd (rGet_calls w6 g er1 A6 c6 bs1 7 7 rfl (by omega) (by omega) h6 (by have := S1.out.2.2.2; have := LS.out; omega))
      generalize getS 7 (er1, bs1) = rr at hN RC hbd
      obtain ⟨m, e2, b2⟩ := rr
      simp only [Prod.mk.injEq, GS.mk.injEq] at hN
      obtain ⟨rfl, rfl, rfl, rfl, hodd⟩ := hN
      have m0 := hbd.1
      clear hbd hq0
      go_wp2_with fail
      refine RC.out.mono ?_
      rintro e w7 ⟨rfl, ra⟩
      have M7 := asd (ra.mid (odd := false) (last := slast) he6 NE.out.1 hc6 ha6)
      have M8 : Aside0 (MidG wr (w7.setCell ⟨ge, 0, none⟩ (.int .i64 m)) g ge A m (hd % 16) 0 0 ⟨e2, b2, slast, odd2⟩) := ⟨M7.out.put NE.out.1 NE.out.2.2 NE.out.2.1 0 m ⟨rfl, rfl⟩ rfl⟩
      clear ra RC h6 he6 hc6 ha6
      obtain ⟨A7, c7, h7, he7, _, _⟩ := M7.out
      obtain ⟨A8, c8, h8, he8, _, _⟩ := M8.out
      have y0 := (blk_cell he7 0).trans rfl
      have yf := blk_frozen he7 0
      have z1 := (blk_cell h8.blk 1).trans rfl
      have z0 := (blk_cell he8 0).trans rfl
      have wl : wrap64 (slast + 1) = slast + 1 := by have := LA.out; unfold wrap64; omega
      clear h7 he7 h8 he8 M7
      by_cases q1 : e2 = 0
      ·have p1 : (e2 == 0) = true := beq_iff_eq.2 q1
       by_cases q2 : m = slast
       ·have p2 : (m == slast) = true := beq_iff_eq.2 q2
        rw [p1, p2] at hodd
        clear q1 q2
        go_wp2
        go_meet
        exact ⟨by rw [← hodd]; rfl, M8⟩
       ·have p2 : (m == slast) = false := beq_eq_false_iff_ne.2 q2
        by_cases q3 : m = slast + 1
        ·have p3 : (m == slast + 1) = true := beq_iff_eq.2 q3
         rw [p1, p2, p3] at hodd
         clear q1 q2 q3
         go_wp2
         go_meet
         exact ⟨by rw [← hodd]; rfl, M8⟩
        ·have p3 : (m == slast + 1) = false := beq_eq_false_iff_ne.2 q3
         rw [p1, p2, p3] at hodd
         clear q1 q2 q3
         go_wp2
         go_meet
         exact ⟨by rw [← hodd]; rfl, M8⟩
      ·have p1 : (e2 == 0) = false := beq_eq_false_iff_ne.2 q1
       rw [p1] at hodd
       clear q1
       go_wp2
       go_meet
       exact ⟨by rw [← hodd]; rfl, M8⟩
     ·have d0 : (q == 0) = false := beq_eq_false_iff_ne.2 hq0
      have hN := TE.out
      unfold tickR at hN
      rw [if_neg hq0] at hN
      simp only [Prod.mk.injEq, GS.mk.injEq] at hN
      obtain ⟨rfl, rfl, rfl, rfl, rfl⟩ := hN
      clear hq0 h6 he6 hc6 ha6
      go_wp2
      go_meet
      exact ⟨rfl, M0⟩
    case rest =>
    obtain ⟨rfl, M1⟩ := hcut
    clear M0
    have tdq : Int.tdiv hd 64 = q := by rw [Int.tdiv_eq_ediv_of_nonneg h0]; exact QE.out
    go_upto_if 74 with fail
    go_cut [] (fun wx => Aside0 (MidG wr wx g ge A tk2 (hd % 16) 0 0 ⟨er2, bs2, last2, odd2⟩))
    case first =>
     obtain ⟨A6, c6, h6, he6, hc6, ha6⟩ := M1.out
     by_cases hq2 : q = 2
     ·have d0 : (q == 2) = true := beq_iff_eq.2 hq2
      obtain rfl : slast + 1 = tk2 := by have h := K2.out; rw [if_pos hq2] at h; exact h
      have wl : wrap64 (slast + 1) = slast + 1 := by have := LA.out; unfold wrap64; omega
      have M8 : Aside0 (MidG wr (wc.setCell ⟨ge, 0, none⟩ (.int .i64 (slast + 1))) g ge A (slast + 1) (hd % 16) 0 0 ⟨er2, bs2, last2, odd2⟩) := ⟨M1.out.put NE.out.1 NE.out.2.2 NE.out.2.1 0 _ ⟨rfl, rfl⟩ rfl⟩
      have y0 := (blk_cell he6 0).trans rfl
      have yf := blk_frozen he6 0
      clear hq2 h6 he6 hc6 ha6
      go_wp2
      go_meet
      exact M8
     ·have d0 : (q == 2) = false := beq_eq_false_iff_ne.2 hq2
      obtain rfl : tk1 = tk2 := by have h := K2.out; rw [if_neg hq2] at h; exact h
      clear hq2 h6 he6 hc6 ha6
      go_wp2
      go_meet
      exact M1
    case rest =>
    have M2 := hcut
    clear hcut M1
    go_upto_region 16 with fail
    go_cut [8] (fun s8 wx => s8 = .bool odd3 ∧ Aside0 (MidG wr wx g ge A tk2 (hd % 16) 0 0 ⟨er2, bs2, last2, odd3⟩))
    case first =>
     have h3 := O3.out
     obtain ⟨A6, c6, h6, he6, hc6, ha6⟩ := M2.out
     have M3 : ∀ o, Aside0 (MidG wr wc g ge A tk2 (hd % 16) 0 0 ⟨er2, bs2, last2, o⟩) := fun o => ⟨A6, c6, h6, he6, hc6, ha6⟩
     have y0 := (blk_cell he6 0).trans rfl
     clear h6 he6 hc6 ha6
     cases odd2 with
     | true =>
      go_wp2
      go_meet
      exact ⟨by rw [← h3]; rfl, M3 _⟩
     | false =>
      by_cases q1 : q = 3
      ·have p1 : (q == 3) = true := beq_iff_eq.2 q1
       rw [p1] at h3
       clear q1
       go_wp2
       go_meet
       exact ⟨by rw [← h3]; rfl, M3 _⟩
      ·have p1 : (q == 3) = false := beq_eq_false_iff_ne.2 q1
       by_cases q2 : 72057594037927936 ≤ tk2
       ·have p2 : decide (72057594037927936 ≤ tk2) = true := decide_eq_true q2
        have p3 : decide (tk2 ≥ 72057594037927936) = true := p2
        rw [p1, p2] at h3
        clear q1 q2
        go_wp2
        go_meet
        exact ⟨by rw [← h3]; rfl, M3 _⟩
       ·have p2 : decide (72057594037927936 ≤ tk2) = false := decide_eq_false q2
        have p3 : decide (tk2 ≥ 72057594037927936) = false := p2
        rw [p1, p2] at h3
        clear q1 q2
        go_wp2
        go_meet
        exact ⟨by rw [← h3]; rfl, M3 _⟩
    case rest =>
    obtain ⟨rfl, M3⟩ := hcut
    clear M2
    have td16 : Int.tdiv hd 16 = hd / 16 := Int.tdiv_eq_ediv_of_nonneg h0
    have td32 : Int.tdiv hd 32 = hd / 32 := Int.tdiv_eq_ediv_of_nonneg h0
    have w16 : wrap64 (hd / 16) = hd / 16 := by unfold wrap64; omega
    have w32 : wrap64 (hd / 32) = hd / 32 := by unfold wrap64; omega
    have tm16 : Int.tmod (hd / 16) 2 = ta := by rw [Int.tmod_eq_emod_of_nonneg (by omega)]; exact TA.out
    have tm32 : Int.tmod (hd / 32) 2 = tb := by rw [Int.tmod_eq_emod_of_nonneg (by omega)]; exact TB.out
    go_upto_if 92 with fail
    go_cut [8] (fun s8 wx => s8 = .bool odd4 ∧ Aside0 (MidG wr wx g ge A tk2 (hd % 16) na 0 ⟨er4, bs4, last2, odd4⟩))
    case first =>
     obtain ⟨A6, c6, h6, he6, hc6, ha6⟩ := M3.out
     by_cases htd : ta = 0
     ·have d0 : (ta == 0) = true := beq_iff_eq.2 htd
      have hN := NA.out
      rw [d0] at hN
      unfold numG GS.get GS.refuse at hN
      rw [if_pos rfl] at hN
      simp only at hN
      have hbd := getS_bd 7 (by omega) (er2, bs2) S2.out.1
      have RC := asd (rGet_calls wc g er2 A6 c6 bs2 7 7 rfl (by omega) (by omega) h6 (by have h1 := S2.out.2; have h2 := LS.out; omega))
      generalize getS 7 (er2, bs2) = rr at hN RC hbd
      obtain ⟨m, e2, b2⟩ := rr
      simp only [Prod.mk.injEq, GS.mk.injEq] at hN
      obtain ⟨rfl, rfl, rfl, _, hodd⟩ := hN
      have m0 := hbd.1
      clear hbd htd
      go_wp2_with fail
      refine RC.out.mono ?_
      rintro e w7 ⟨rfl, ra⟩
      have M7 := asd (ra.mid (odd := odd3) (last := last2) he6 NE.out.1 hc6 ha6)
      have M8 : Aside0 (MidG wr (w7.setCell ⟨ge, 2, none⟩ (.int .i64 m)) g ge A tk2 (hd % 16) m 0 ⟨e2, b2, last2, odd4⟩) := ⟨M7.out.put NE.out.1 NE.out.2.2 NE.out.2.1 2 m ⟨rfl, rfl⟩ rfl⟩
      clear ra RC h6 he6 hc6 ha6
      obtain ⟨A7, c7, h7, he7, _, _⟩ := M7.out
      obtain ⟨A8, c8, h8, he8, _, _⟩ := M8.out
      have y2 := (blk_cell he7 2).trans rfl
      have yf := blk_frozen he7 2
      have z1 := (blk_cell h8.blk 1).trans rfl
      have z2 := (blk_cell he8 2).trans rfl
      clear h7 he7 h8 he8 M7
      cases odd3 with
      | true =>
       go_wp2
       go_meet
       exact ⟨by rw [← hodd]; rfl, M8⟩
      | false =>
       by_cases q1 : e2 = 0
       ·have p1 : (e2 == 0) = true := beq_iff_eq.2 q1
        by_cases q2 : m = 0
        ·have p2 : (m == 0) = true := beq_iff_eq.2 q2
         rw [p1, p2] at hodd
         clear q1 q2
         go_wp2
         go_meet
         exact ⟨by rw [← hodd]; rfl, M8⟩
        ·have p2 : (m == 0) = false := beq_eq_false_iff_ne.2 q2
         rw [p1, p2] at hodd
         clear q1 q2
         go_wp2
         go_meet
         exact ⟨by rw [← hodd]; rfl, M8⟩
       ·have p1 : (e2 == 0) = false := beq_eq_false_iff_ne.2 q1
        rw [p1] at hodd
        clear q1
        go_wp2
        go_meet
        exact ⟨by rw [← hodd]; rfl, M8⟩
     ·have d0 : (ta == 0) = false := beq_eq_false_iff_ne.2 htd
      have hN := NA.out
      rw [d0] at hN
      unfold numG at hN
      rw [if_neg (by simp)] at hN
      simp only [Prod.mk.injEq, GS.mk.injEq] at hN
      obtain ⟨rfl, rfl, rfl, _, rfl⟩ := hN
      clear htd h6 he6 hc6 ha6
      go_wp2
      go_meet
      exact ⟨rfl, M3⟩
    case rest =>
    obtain ⟨rfl, M4⟩ := hcut
    clear M3
    go_upto_if 112 with fail
    go_cut [8] (fun s8 wx => s8 = .bool odd5 ∧ Aside0 (MidG wr wx g ge A tk2 (hd % 16) na nb ⟨er5, bs5, last2, odd5⟩))
    case first =>
     obtain ⟨A6, c6, h6, he6, hc6, ha6⟩ := M4.out
     by_cases htd : tb = 0
     ·have d0 : (tb == 0) = true := beq_iff_eq.2 htd
      have hN := NB.out
      rw [d0] at hN
      unfold numG GS.get GS.refuse at hN
      rw [if_pos rfl] at hN
      simp only at hN
      have hbd := getS_bd 7 (by omega) (er4, bs4) S4.out.1
      have RC := asd (rGet_calls wc g er4 A6 c6 bs4 7 7 rfl (by omega) (by omega) h6 (by have h1 := S4.out.2; have h2 := LS.out; omega))
      generalize getS 7 (er4, bs4) = rr at hN RC hbd
      obtain ⟨m, e2, b2⟩ := rr
      simp only [Prod.mk.injEq, GS.mk.injEq] at hN
      obtain ⟨rfl, rfl, rfl, _, hodd⟩ := hN
      have m0 := hbd.1
      clear hbd htd
      go_wp2_with fail
      refine RC.out.mono ?_
      rintro e w7 ⟨rfl, ra⟩
      have M7 := asd (ra.mid (odd := odd4) (last := last2) he6 NE.out.1 hc6 ha6)
      have M8 : Aside0 (MidG wr (w7.setCell ⟨ge, 3, none⟩ (.int .i64 m)) g ge A tk2 (hd % 16) na m ⟨e2, b2, last2, odd5⟩) := ⟨M7.out.put NE.out.1 NE.out.2.2 NE.out.2.1 3 m ⟨rfl, rfl⟩ rfl⟩
      clear ra RC h6 he6 hc6 ha6
      obtain ⟨A7, c7, h7, he7, _, _⟩ := M7.out
      obtain ⟨A8, c8, h8, he8, _, _⟩ := M8.out
      have y3 := (blk_cell he7 3).trans rfl
      have yf := blk_frozen he7 3
      have z1 := (blk_cell h8.blk 1).trans rfl
      have z3 := (blk_cell he8 3).trans rfl
      clear h7 he7 h8 he8 M7
      cases odd4 with
      | true =>
       go_wp2
       go_meet
       exact ⟨by rw [← hodd]; rfl, M8⟩
      | false =>
       by_cases q1 : e2 = 0
       ·have p1 : (e2 == 0) = true := beq_iff_eq.2 q1
        by_cases q2 : m = 0
        ·have p2 : (m == 0) = true := beq_iff_eq.2 q2
         rw [p1, p2] at hodd
         clear q1 q2
         go_wp2
         go_meet
         exact ⟨by rw [← hodd]; rfl, M8⟩
        ·have p2 : (m == 0) = false := beq_eq_false_iff_ne.2 q2
         rw [p1, p2] at hodd
         clear q1 q2
         go_wp2
         go_meet
         exact ⟨by rw [← hodd]; rfl, M8⟩
       ·have p1 : (e2 == 0) = false := beq_eq_false_iff_ne.2 q1
        rw [p1] at hodd
        clear q1
        go_wp2
        go_meet
        exact ⟨by rw [← hodd]; rfl, M8⟩
     ·have d0 : (tb == 0) = false := beq_eq_false_iff_ne.2 htd
      have hN := NB.out
      rw [d0] at hN
      unfold numG at hN
      rw [if_neg (by simp)] at hN
      simp only [Prod.mk.injEq, GS.mk.injEq] at hN
      obtain ⟨rfl, rfl, rfl, _, rfl⟩ := hN
      clear htd h6 he6 hc6 ha6
      go_wp2
      go_meet
      exact ⟨rfl, M4⟩
    case rest =>
    obtain ⟨rfl, M5⟩ := hcut
    clear M4
    obtain ⟨A6, c6, h6, he6, hc6, ha6⟩ := M5.out
    have y0 := (blk_cell he6 0).trans rfl
    have y1 := (blk_cell he6 1).trans rfl
    have y2 := (blk_cell he6 2).trans rfl
    have y3 := (blk_cell he6 3).trans rfl
    have RO5 := asd (R_chgB RO.out hc6 (fun k hk => by have h1 : k = g := hk; have := LT.out; omega))
    have HB5 : Aside0 (Below w.heap.size w wc) := ⟨((Chg.of_belowB HB.out).then_ hc6 (fun k hk => .inl (by have h1 : k = g := hk; have := LT.out; omega))).to_below (fun _ h => h) (Nat.le_refl _)⟩
    have SZ5 : Aside0 (wr.heap.size ≤ wc.heap.size) := ⟨hc6.size⟩
    have M5' := asd (And.intro h6 ha6)
    clear h6 he6 hc6 ha6 M5 tm tdq td16 td32 tm16 tm32
    go_wp2_with (first
     | (at_builtin; refine Kd.R_append k64 (w0 := wc) B2 rfl (.tmp 131) (.tmp 133) 29 64 (.agg #[.int .i64 0, .int .i64 0, .int .i64 0, .int .i64 0]) 32 rfl Try.underlying29 info64 rfl (by decide) (by omega) (.slice Ao out.length co) (out.map toRG) (⟨tk2, hd % 16, na, nb⟩ : S64) [.int .i64 tk2, .int .i64 (hd % 16), .int .i64 na, .int .i64 nb] (fun _ => True) (fun _ => False) rfl rfl (k64_mkM _ _ _ _) (fun _ hk => hk.elim) (fun _ _ => trivial) RO5.out (Below.refl _ _) (by have := SZ.out; have := SZ5.out; omega) (by have := HX.out; rw [List.length_map]; omega) ?_; intro v6 w6 ho hb hg hat; obtain ⟨A9, c9, rfl⟩ := Kd.R_slice ho; have RO6 := asd ho; have HB6 := asd hb; clear ho hb hg hat))
    go_roundg (n.toNat - (i + 1))
    case measure => have := HN.out; omega
    case rel => exact ⟨i + 1, out ++ [⟨tk2, hd % 16, na, nb⟩], ⟨er5, bs5, tk2, odd5⟩, A6, c6, A9, c9, rfl, by simp, rfl, rfl, by go_num, ⟨by have := HN.out; omega, by rw [List.length_append, HX.out.2.1]; rfl, by have := HN.out; omega, fun _ => HN.out.2⟩, ⟨fun h => ⟨EN.out.1, EO.out h⟩⟩, ⟨M5'.out.1.chg (Chg.of_belowB HB6.out) (by have := LT.out; have := SZ.out; omega) (fun ad q => by
      obtain ⟨ad0, q1, q2⟩ := M5'.out.2 ad q
      have := HS.out.2.2 ad0 q1
      have := LT.out; omega), EN.out.2.2, fun ad q => by
      obtain ⟨ad0, q1, q2⟩ := M5'.out.2 ad q
      rw [q2]; exact HS.out.2.2 ad0 q1⟩, ST, ⟨by have h := RO6.out; simp only [List.map_append, List.map_cons, List.map_nil, List.length_append, List.length_map, List.length_cons, List.length_nil] at h ⊢; exact h⟩, ⟨((Chg.of_belowB HB5.out).then_ (Chg.of_belowB HB6.out) (fun k hk => .inl (by have := LT.out; omega))).to_below (fun _ h => h) (Nat.le_refl _)⟩, ⟨by have := HB6.out.size; have := SZ5.out; have := SZ.out; omega⟩⟩
   ·have FIN : Aside0 (loopG n.toNat ⟨er, bs, 0, od⟩ = (out, ⟨ser, sbs, slast, sodd⟩)) := ⟨by
     refine RS.out.stop ?_
     by_cases q : (i : Int) < n
     ·right
      cases sodd with
      | true => exact .inl rfl
      | false => exact .inr (fun q2 => hgo ⟨q, q2, rfl⟩)
     ·left; omega⟩
    have DONE : ∃ out s A c Ao co, (Value.slice Ao out.length co = Value.slice Ao out.length co) ∧ Aside0 (loopG n.toNat ⟨er, bs, 0, od⟩ = (out, s)) ∧ True := ⟨out, ⟨ser, sbs, slast, sodd⟩, A, c, Ao, co, rfl, FIN, trivial⟩
    clear DONE
    have FX : ∀ W : World, W = wr → ∃ (out' : List S65) (s : GS) (A' : Option Addr) (c' : Nat) (Ao' : Option Addr) (co' : Nat), Value.slice Ao out.length co = .slice Ao' out'.length co' ∧ Value.bool sodd = .bool s.odd ∧ Aside0 (loopG n.toNat ⟨er, bs, 0, od⟩ = (out', s)) ∧ Aside0 (IsRR W g s.er A' c' s.bs ∧ s.bs.length ≤ b.length) ∧ Aside0 (k64.R 64 W B2 (fun _ => True) (.slice Ao' out'.length co') (out'.map toRG)) ∧ Aside0 (Below w.heap.size w W) := fun W hW => by
     subst hW
     exact ⟨out, ⟨ser, sbs, slast, sodd⟩, A, c, Ao, co, rfl, rfl, FIN, ⟨HS.out.1, HS.out.2.1⟩, RO, HB⟩
    have FXA := asd FX
    clear FX
    by_cases hin : (i : Int) < n
    ·have q1 : decide ((i : Int) < n) = true := decide_eq_true hin
     by_cases he : ser = 0
     ·have b0 : (ser == 0) = true := beq_iff_eq.2 he
      obtain rfl : sodd = true := by
       cases sodd with
       | true => rfl
       | false => exact absurd ⟨hin, he, rfl⟩ hgo
      clear hin he hgo
      go_wp2
      go_meet
      exact FXA.out _ rfl
     ·have b0 : (ser == 0) = false := beq_eq_false_iff_ne.2 he
      clear hin he hgo
      go_wp2
      go_meet
      exact FXA.out _ rfl
    ·have q1 : decide ((i : Int) < n) = false := decide_eq_false hin
     clear hin hgo
     go_wp2
     go_meet
     exact FXA.out _ rfl
 case rest =>
  clear H3 HB3 S0 SZ3 AD3
  obtain ⟨out, s, A, c, Ao, co, rfl, rfl, FIN, HS, RO, HB⟩ := hcut
  obtain ⟨ser, sbs, slast, sodd⟩ := s
  have hp1 := (blk_cell HS.out.1.blk 1).trans rfl
  have hp0 := (blk_cell HS.out.1.blk 0).trans rfl
  have GP : Aside0 (getP b = (if sodd = true then ([], 10) else if (getS 2 (ser, sbs)).2.1 ≠ 0 then ([], 11) else if (getS 2 (ser, sbs)).1 ≠ sumP (b.take (b.length - (if ser = 0 then sbs.length else 0))) ∨ 0 < (getS 2 (ser, sbs)).2.2.length then ([], 10) else (out, 0))) := ⟨by
   unfold getP
   simp only [G4.out]
   rw [show decide (65536 < n) = od from OD0.out, FIN.out]⟩
  cases sodd with
  | true =>
   have OT : Aside0 (getP b = ([], 10)) := ⟨by rw [GP.out, if_pos rfl]⟩
   clear GP
   go_wp2
   go_ret2
   rw [OT.out]
   exact ⟨none, 0, rfl, Nat.le_refl _, Kd.C_nil _ _, HB.out⟩
  | false =>
   by_cases he : ser = 0
   ·obtain rfl : ser = 0 := he
    have bz : ((0 : Int) != 0) = false := rfl
    have GC := asd (rGet_calls wc g 0 A c sbs 2 2 rfl (by omega) (by omega) HS.out.1 (by have h1 : sbs.length ≤ b.length := HS.out.2; have := HL.out; omega))
    generalize getS 2 (0, sbs) = r2 at GC GP
    obtain ⟨m, er2, bs2⟩ := r2
    have HK : Aside0 (sbs.length ≤ b.length) := ⟨HS.out.2⟩
    have e76 : (b.length : Int) - (sbs.length : Int) = ((b.length - sbs.length : Nat) : Int) := by have := HK.out; omega
    have w76 : wrap64 ((b.length : Int) - (sbs.length : Int)) = ((b.length - sbs.length : Nat) : Int) := by rw [e76]; unfold wrap64; omega
    go_wp2_with fail
    refine GC.out.mono ?_
    rintro e w7 ⟨rfl, A7, c7, h7, hc7, ha7⟩
    have H7 := asd h7
    have RO7 := asd (R_chgB RO.out hc7 (fun k hk => by have h1 := LT.out; omega))
    have HB7 : Aside0 (Below w.heap.size w w7) := ⟨((Chg.of_belowB HB.out).then_ hc7 (fun k hk => .inl (by have := LT.out; omega))).to_below (fun _ h => h) (Nat.le_refl _)⟩
    clear h7 hc7 ha7 GC hp0 hp1
    have hp0 := (blk_cell H7.out.blk 0).trans rfl
    have hp1 := (blk_cell H7.out.blk 1).trans rfl
    by_cases he2 : er2 = 0
    ·obtain rfl := he2
     have GP2 : Aside0 (getP b = if m ≠ sumP (b.take (b.length - sbs.length)) ∨ 0 < bs2.length then ([], 10) else (out, 0)) := ⟨by
      have h := GP.out
      simp only [if_true, if_false, ne_eq, not_true_eq_false, Bool.false_eq_true] at h
      exact h⟩
     have hkl : (b.take (b.length - sbs.length)).length = b.length - sbs.length := by rw [List.length_take]; omega
     have SUM := asd (rsum_calls A0 c0 (b.take (b.length - sbs.length)) w7 (Kd.C_take (Kd.C_below HR.out HB7.out) (by omega)) (by rw [hkl]; have := HC.out; omega) (HBY.out.take _) (by rw [hkl]; have := HL.out; omega))
     rw [hkl] at SUM
     generalize sumP (b.take (b.length - sbs.length)) = sm at SUM GP2
     generalize b.length - sbs.length = kk at SUM e76 w76 hkl ⊢
     have kk9 : kk ≤ b.length := by rw [← hkl, List.length_take]; omega
     have p0 : (0 ≤ (kk : Int)) = True := eq_true (by omega)
     have p1 : ((kk : Int) ≤ (c0 : Int)) = True := eq_true (by have := HC.out; omega)
     have p2 : ((kk : Int) ≤ (b.length : Int)) = True := eq_true (by omega)
     have p3 : (kk ≤ c0) = True := eq_true (by have := HC.out; omega)
     clear hkl GP kk9 e76 w76
     by_cases hm : m = sm
     ·obtain rfl := hm
      have bn : (m != m) = false := by simp
      by_cases hz : 0 < bs2.length
      ·have OT : Aside0 (getP b = ([], 10)) := ⟨by rw [GP2.out, if_pos (.inr hz)]⟩
       have dz : decide ((bs2.length : Int) > 0) = true := decide_eq_true (by omega)
       have dz2 : decide (0 < (bs2.length : Int)) = true := dz
       have dz3 : decide (0 < bs2.length) = true := decide_eq_true hz
       clear GP2 hz
       go_wp2_with (first | (go_at_call 60; refine SUM.out.mono ?_; rintro e w8 ⟨rfl, hb⟩; have H8 := asd (H7.out.below hb); have HB8 := asd (below_step HB7.out hb); clear hb hp0 hp1; have hp0 := (blk_cell H8.out.blk 0).trans rfl))
       go_ret2
       rw [OT.out]
       exact ⟨none, 0, rfl, Nat.le_refl _, Kd.C_nil _ _, HB8.out⟩
      ·have OT : Aside0 (getP b = (out, 0)) := ⟨by rw [GP2.out, if_neg (fun q => q.elim (fun q => q rfl) hz)]⟩
       have dz : decide ((bs2.length : Int) > 0) = false := decide_eq_false (by omega)
       have dz2 : decide (0 < (bs2.length : Int)) = false := dz
       have dz3 : decide (0 < bs2.length) = false := decide_eq_false hz
       clear GP2 hz
       go_wp2_with (first | (go_at_call 60; refine SUM.out.mono ?_; rintro e w8 ⟨rfl, hb⟩; have H8 := asd (H7.out.below hb); have HB8 := asd (below_step HB7.out hb); have RO8 := asd (Kd.R_below RO7.out hb); clear hb hp0 hp1; have hp0 := (blk_cell H8.out.blk 0).trans rfl))
       go_ret2
       rw [OT.out]
       have h9 := C_ofR RO8.out
       rw [List.length_map] at h9
       exact ⟨Ao, co, rfl, (Kd.R_reads' RO8.out).2.1, h9, HB8.out⟩
     ·have OT : Aside0 (getP b = ([], 10)) := ⟨by rw [GP2.out, if_pos (.inl hm)]⟩
      have bn : (m != sm) = true := by simpa using hm
      clear GP2 hm
      go_wp2_with (first | (go_at_call 60; refine SUM.out.mono ?_; rintro e w8 ⟨rfl, hb⟩; have HB8 := asd (below_step HB7.out hb); clear hb))
      go_ret2
      rw [OT.out]
      exact ⟨none, 0, rfl, Nat.le_refl _, Kd.C_nil _ _, HB8.out⟩
    ·have OT : Aside0 (getP b = ([], 11)) := ⟨by rw [GP.out, if_neg (by simp), if_pos he2]⟩
     have bn : (er2 != 0) = true := by simpa using he2
     clear GP he2
     go_wp2
     go_ret2
     rw [OT.out]
     exact ⟨none, 0, rfl, Nat.le_refl _, Kd.C_nil _ _, HB7.out⟩
   ·have OT : Aside0 (getP b = ([], 11)) := ⟨by rw [GP.out, if_neg (by simp), if_pos (by rw [getS_err (show (ser, sbs).1 ≠ 0 from he)]; exact he)]⟩
    have bn : (ser != 0) = true := by simpa using he
    clear GP he
    go_wp2
    go_ret2
    rw [OT.out]
    exact ⟨none, 0, rfl, Nat.le_refl _, Kd.C_nil _ _, HB.out⟩
end Go.Proofs.Ytalimpniimgheaa.Fn
namespace Go.Proofs.Ytalimpniimgheaa.Fn
open Go.RowKit Go.Proofs.YtalimpniimgheaaW.PrintWords Go.Proofs.YtalimpniimgheaaW.PrintLast Go.Proofs.YtalimpniimgheaaW.PrintMore
set_option linter.unusedVariables false
set_option linter.unusedSimpArgs false
set_option maxHeartbeats 8000000 in
set_option maxRecDepth 100000 in
theorem pgets_walk (a0 : Option Addr) (c0 : Nat) (x0 : List Int) (w : World) (hr0 : Kd.C (Kd.int .u8) w a0 x0.length x0) (hc0 : x0.length ≤ c0) (hb : Bytes x0) : Calls Try.prog 10 #[.slice a0 x0.length c0] w fun e w' => e = .returned (.bool true) ∧ Below w.heap.size w w' := by
 by_cases h : x0.length ≤ 4000
 ·have d0 : decide ((x0.length : Int) > 4000) = false := decide_eq_false (by omega)
  have d1 : decide (4000 < (x0.length : Int)) = false := d0
  have GB := asd (pGet_calls a0 c0 x0 w hr0 hc0 hb (by omega))
  have RB := asd (fun w1 (h1 : Kd.C (Kd.int .u8) w1 a0 x0.length x0) => rrGet_calls a0 c0 x0 w1 h1 hc0 hb (by omega))
  have H0 := asd hr0
  have GL : Aside0 ((getP x0).1.length ≤ 65536) := ⟨by
   by_cases q : (getP x0).2 = 0
   ·exact (put_get x0 hb _ (by rw [← q])).2.2
   ·rw [getP_nil x0 q]; simp⟩
  generalize getP x0 = G at GB RB GL
  obtain ⟨gy, gf⟩ := G
  have EP : Aside0 ((gy.map toRG).map eP = gy) := ⟨by rw [List.map_map]; exact List.map_id'' (fun x => rfl) gy⟩
  have ML : Aside0 ((gy.map toRG).length = gy.length) := ⟨List.length_map _⟩
  clear hr0 hc0 hb h
  go_enter Try.func10, Try.ntmps10
  go_wp2_with fail
  refine GB.out.mono ?_
  rintro e w1 ⟨A1, c1, rfl, hc1, hC1, hb⟩
  have C1 := asd (And.intro hc1 hC1)
  have HB1 := asd hb
  clear hc1 hC1 hb GB
  go_wp2_with fail
  refine (RB.out w1 (Kd.C_below H0.out HB1.out)).mono ?_
  rintro e w2 ⟨A2, c2, rfl, hc2, hC2, hb⟩
  have C2 := asd (And.intro hc2 hC2)
  have C1b := asd (Kd.C_below C1.out.2 hb)
  have HB2 := asd (below_step HB1.out hb)
  clear hc2 hC2 hb RB
  have PR := asd (prefs_calls A1 c1 (gy.map toRG) w2 (by rw [ML.out, EP.out]; exact C1b.out) (by rw [ML.out]; exact C1.out.1) (by rw [ML.out]; exact GL.out))
  rw [ML.out] at PR
  go_wp2_with fail
  refine PR.out.mono ?_
  rintro e w3 ⟨A3, c3, rfl, hc3, hC3, hb⟩
  have C3 := asd (And.intro hc3 hC3)
  have C2b := asd (Kd.C_below C2.out.2 hb)
  have HB3 := asd (below_step HB2.out hb)
  clear hc3 hC3 hb PR
  have PS := asd (psame_calls A3 c3 A2 c2 (gy.map toRG) w3 (by rw [ML.out]; exact C3.out.2) (by rw [ML.out]; exact C3.out.1) (by rw [ML.out]; exact C2b.out) (by rw [ML.out]; exact C2.out.1) (by rw [ML.out]; exact GL.out))
  rw [ML.out] at PS
  go_wp2_with fail
  refine PS.out.mono ?_
  rintro e w4 ⟨rfl, hb⟩
  have HB4 := asd (below_step HB3.out hb)
  clear hb PS
  go_wp2_with fail
  refine (parcloselaw36_num.calls _ _ _ rfl).mono ?_
  rintro e w5 ⟨rfl, hd⟩
  have HB5 := asd (below_step HB4.out hd.below)
  clear hd
  have bn : (gf == gf) = true := beq_self_eq_true gf
  go_wp2_with fail
  refine (pknows_calls _).mono ?_
  rintro e wk ⟨rfl, hb⟩
  have HBK := asd (below_step HB5.out hb)
  clear hb
  go_wp2
  go_ret
  exact ⟨rfl, HBK.out⟩
 ·have d0 : decide ((x0.length : Int) > 4000) = true := decide_eq_true (by omega)
  have d1 : decide (4000 < (x0.length : Int)) = true := d0
  clear h
  go_enter Try.func10, Try.ntmps10
  go_wp2_with (first | (go_at_call 52; refine (pknows_calls _).mono ?_; rintro e wk ⟨rfl, hb⟩; have HBK := asd hb; clear hb))
  go_ret
  exact ⟨rfl, HBK.out⟩
end Go.Proofs.Ytalimpniimgheaa.Fn
