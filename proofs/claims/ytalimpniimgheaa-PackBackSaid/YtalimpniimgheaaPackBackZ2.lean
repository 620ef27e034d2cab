/- Part of the proof of PackBack: see the last text. (Words laid by the print, as far as they are named here; walks written by a program of this project; plain laws.) -/
import Derived.Test.YtalimpniimgheaaPackBackZ1
namespace Go.Proofs.Ytalimpniimgheaa.Fn
open Go.RowKit Go.Proofs.YtalimpniimgheaaW.PrintWords Go.Proofs.YtalimpniimgheaaW.PrintLast Go.Proofs.YtalimpniimgheaaW.PrintMore
attribute [local go_sem] max2_int min2_int max_two min_two max_three min_three max_four min_four
set_option linter.unusedVariables false
set_option linter.unusedSimpArgs false
def bits_Len64.j0 : Nat → Int → Int → Option (Int)
 | 0, _, _ => none
 | k + 1, x0, x2 => if x0 ≥ 65536 then (if (x0 / 65536) ≥ 256 then (if 0 ≤ (((x0 / 65536) / 256) % 256) then (if (((x0 / 65536) / 256) % 256) < 256 then (some (wrap64 ((wrap64 ((wrap64 (x2 + 16)) + 8)) + (wrap64 (bt (⟨#[0, 1, 2, 2, 3, 3, 3, 3, 4, 4, 4, 4, 4, 4, 4, 4, 5, 5, 5, 5, 5, 5, 5, 5, 5, 5, 5, 5, 5, 5, 5, 5, 6, 6, 6, 6, 6, 6, 6, 6, 6, 6, 6, 6, 6, 6, 6, 6, 6, 6, 6, 6, 6, 6, 6, 6, 6, 6, 6, 6, 6, 6, 6, 6, 7, 7, 7, 7, 7, 7, 7, 7, 7, 7, 7, 7, 7, 7, 7, 7, 7, 7, 7, 7, 7, 7, 7, 7, 7, 7, 7, 7, 7, 7, 7, 7, 7, 7, 7, 7, 7, 7, 7, 7, 7, 7, 7, 7, 7, 7, 7, 7, 7, 7, 7, 7, 7, 7, 7, 7, 7, 7, 7, 7, 7, 7, 7, 7, 8, 8, 8, 8, 8, 8, 8, 8, 8, 8, 8, 8, 8, 8, 8, 8, 8, 8, 8, 8, 8, 8, 8, 8, 8, 8, 8, 8, 8, 8, 8, 8, 8, 8, 8, 8, 8, 8, 8, 8, 8, 8, 8, 8, 8, 8, 8, 8, 8, 8, 8, 8, 8, 8, 8, 8, 8, 8, 8, 8, 8, 8, 8, 8, 8, 8, 8, 8, 8, 8, 8, 8, 8, 8, 8, 8, 8, 8, 8, 8, 8, 8, 8, 8, 8, 8, 8, 8, 8, 8, 8, 8, 8, 8, 8, 8, 8, 8, 8, 8, 8, 8, 8, 8, 8, 8, 8, 8, 8, 8, 8, 8, 8, 8, 8, 8, 8, 8, 8, 8, 8, 8, 8, 8, 8, 8, 8, 8]⟩ : ByteArray) (((x0 / 65536) / 256) % 256)))))) else (none)) else (none)) else (if 0 ≤ ((x0 / 65536) % 256) then (if ((x0 / 65536) % 256) < 256 then (some (wrap64 ((wrap64 (x2 + 16)) + (wrap64 (bt (⟨#[0, 1, 2, 2, 3, 3, 3, 3, 4, 4, 4, 4, 4, 4, 4, 4, 5, 5, 5, 5, 5, 5, 5, 5, 5, 5, 5, 5, 5, 5, 5, 5, 6, 6, 6, 6, 6, 6, 6, 6, 6, 6, 6, 6, 6, 6, 6, 6, 6, 6, 6, 6, 6, 6, 6, 6, 6, 6, 6, 6, 6, 6, 6, 6, 7, 7, 7, 7, 7, 7, 7, 7, 7, 7, 7, 7, 7, 7, 7, 7, 7, 7, 7, 7, 7, 7, 7, 7, 7, 7, 7, 7, 7, 7, 7, 7, 7, 7, 7, 7, 7, 7, 7, 7, 7, 7, 7, 7, 7, 7, 7, 7, 7, 7, 7, 7, 7, 7, 7, 7, 7, 7, 7, 7, 7, 7, 7, 7, 8, 8, 8, 8, 8, 8, 8, 8, 8, 8, 8, 8, 8, 8, 8, 8, 8, 8, 8, 8, 8, 8, 8, 8, 8, 8, 8, 8, 8, 8, 8, 8, 8, 8, 8, 8, 8, 8, 8, 8, 8, 8, 8, 8, 8, 8, 8, 8, 8, 8, 8, 8, 8, 8, 8, 8, 8, 8, 8, 8, 8, 8, 8, 8, 8, 8, 8, 8, 8, 8, 8, 8, 8, 8, 8, 8, 8, 8, 8, 8, 8, 8, 8, 8, 8, 8, 8, 8, 8, 8, 8, 8, 8, 8, 8, 8, 8, 8, 8, 8, 8, 8, 8, 8, 8, 8, 8, 8, 8, 8, 8, 8, 8, 8, 8, 8, 8, 8, 8, 8, 8, 8, 8, 8, 8, 8, 8, 8]⟩ : ByteArray) ((x0 / 65536) % 256)))))) else (none)) else (none))) else (if x0 ≥ 256 then (if 0 ≤ ((x0 / 256) % 256) then (if ((x0 / 256) % 256) < 256 then (some (wrap64 ((wrap64 (x2 + 8)) + (wrap64 (bt (⟨#[0, 1, 2, 2, 3, 3, 3, 3, 4, 4, 4, 4, 4, 4, 4, 4, 5, 5, 5, 5, 5, 5, 5, 5, 5, 5, 5, 5, 5, 5, 5, 5, 6, 6, 6, 6, 6, 6, 6, 6, 6, 6, 6, 6, 6, 6, 6, 6, 6, 6, 6, 6, 6, 6, 6, 6, 6, 6, 6, 6, 6, 6, 6, 6, 7, 7, 7, 7, 7, 7, 7, 7, 7, 7, 7, 7, 7, 7, 7, 7, 7, 7, 7, 7, 7, 7, 7, 7, 7, 7, 7, 7, 7, 7, 7, 7, 7, 7, 7, 7, 7, 7, 7, 7, 7, 7, 7, 7, 7, 7, 7, 7, 7, 7, 7, 7, 7, 7, 7, 7, 7, 7, 7, 7, 7, 7, 7, 7, 8, 8, 8, 8, 8, 8, 8, 8, 8, 8, 8, 8, 8, 8, 8, 8, 8, 8, 8, 8, 8, 8, 8, 8, 8, 8, 8, 8, 8, 8, 8, 8, 8, 8, 8, 8, 8, 8, 8, 8, 8, 8, 8, 8, 8, 8, 8, 8, 8, 8, 8, 8, 8, 8, 8, 8, 8, 8, 8, 8, 8, 8, 8, 8, 8, 8, 8, 8, 8, 8, 8, 8, 8, 8, 8, 8, 8, 8, 8, 8, 8, 8, 8, 8, 8, 8, 8, 8, 8, 8, 8, 8, 8, 8, 8, 8, 8, 8, 8, 8, 8, 8, 8, 8, 8, 8, 8, 8, 8, 8, 8, 8, 8, 8, 8, 8, 8, 8, 8, 8, 8, 8, 8, 8, 8, 8, 8, 8]⟩ : ByteArray) ((x0 / 256) % 256)))))) else (none)) else (none)) else (if 0 ≤ ((x0) % 256) then (if ((x0) % 256) < 256 then (some (wrap64 (x2 + (wrap64 (bt (⟨#[0, 1, 2, 2, 3, 3, 3, 3, 4, 4, 4, 4, 4, 4, 4, 4, 5, 5, 5, 5, 5, 5, 5, 5, 5, 5, 5, 5, 5, 5, 5, 5, 6, 6, 6, 6, 6, 6, 6, 6, 6, 6, 6, 6, 6, 6, 6, 6, 6, 6, 6, 6, 6, 6, 6, 6, 6, 6, 6, 6, 6, 6, 6, 6, 7, 7, 7, 7, 7, 7, 7, 7, 7, 7, 7, 7, 7, 7, 7, 7, 7, 7, 7, 7, 7, 7, 7, 7, 7, 7, 7, 7, 7, 7, 7, 7, 7, 7, 7, 7, 7, 7, 7, 7, 7, 7, 7, 7, 7, 7, 7, 7, 7, 7, 7, 7, 7, 7, 7, 7, 7, 7, 7, 7, 7, 7, 7, 7, 8, 8, 8, 8, 8, 8, 8, 8, 8, 8, 8, 8, 8, 8, 8, 8, 8, 8, 8, 8, 8, 8, 8, 8, 8, 8, 8, 8, 8, 8, 8, 8, 8, 8, 8, 8, 8, 8, 8, 8, 8, 8, 8, 8, 8, 8, 8, 8, 8, 8, 8, 8, 8, 8, 8, 8, 8, 8, 8, 8, 8, 8, 8, 8, 8, 8, 8, 8, 8, 8, 8, 8, 8, 8, 8, 8, 8, 8, 8, 8, 8, 8, 8, 8, 8, 8, 8, 8, 8, 8, 8, 8, 8, 8, 8, 8, 8, 8, 8, 8, 8, 8, 8, 8, 8, 8, 8, 8, 8, 8, 8, 8, 8, 8, 8, 8, 8, 8, 8, 8, 8, 8, 8, 8, 8, 8, 8, 8]⟩ : ByteArray) ((x0) % 256)))))) else (none)) else (none)))
def bits_Len64.f (k : Nat) (a0 : Int) : Option (Int) := if a0 ≥ 4294967296 then (bits_Len64.j0 k (a0 / 4294967296) 32) else (bits_Len64.j0 k a0 0)
set_option maxHeartbeats 8000000 in
set_option maxRecDepth 100000 in
theorem bits_Len64.calls (k : Nat) (a0 : Int) (r : Int) (w : World) (h : bits_Len64.f k a0 = some r) :
  Calls Try.prog 126 #[.int .u64 a0] w fun e w' => e = .returned (.int .i64 r) ∧ Drawn0 w w' := by
 have H : (if a0 ≥ 4294967296 then (bits_Len64.j0 k (a0 / 4294967296) 32) else (bits_Len64.j0 k a0 0)) = some r := h
 clear h
 have HC2 := asd H
 clear H
 go_enter Try.func126, Try.ntmps126
 go_upto_if 4 with (fail)
 go_cut [0, 2] (fun v0 v2 wc => ∃ (kq : Nat) (x0_1 : Int) (x2_1 : Int), v0 = .int .u64 x0_1 ∧ v2 = .int .i64 x2_1 ∧ Aside0 (bits_Len64.j0 kq x0_1 x2_1 = some r) ∧ Aside0 (kq ≤ k) ∧ Drawn0 w wc)
 case first =>
  have H := HC2.out
  clear HC2
  by_cases c3 : a0 ≥ 4294967296
  ·rw [if_pos c3] at H
   have c3b0 : decide (4294967296 ≤ a0) = true := decide_eq_true c3
   clear c3
   (first | rw [c3b0] | (simp only [i64_w, i32_w]; rw [c3b0]) | skip)
   have H' := asd H
   clear H
   go_wp2
   go_meet
   case rel => exact ⟨_, (a0 / 4294967296), (32), (by first | rfl | (simp; done) | (simp [*]; done)), (by first | rfl | (simp; done) | (simp [*]; done)), H', ⟨by first | omega | exact Nat.le_refl _⟩, by repeat (first | exact Drawn0.refl _ | apply Drawn0.step)⟩
  ·rw [if_neg c3] at H
   have c3b0 : decide (4294967296 ≤ a0) = false := decide_eq_false c3
   clear c3
   (first | rw [c3b0] | (simp only [i64_w, i32_w]; rw [c3b0]) | skip)
   have H' := asd H
   clear H
   go_wp2
   go_meet
   case rel => exact ⟨_, (a0), (0), (by first | rfl | (simp; done) | (simp [*]; done)), (by first | rfl | (simp; done) | (simp [*]; done)), H', ⟨by first | omega | exact Nat.le_refl _⟩, by repeat (first | exact Drawn0.refl _ | apply Drawn0.step)⟩
 case rest =>
  clear HC2
  try clear c1
  try clear p2
  try clear c3
  try clear c3b0
  obtain ⟨kq, x0_1, x2_1, rfl, rfl, HA, HJ1, ⟨mc1, rfl⟩⟩ := hcut
  cases kq with
  | zero => exact absurd HA.out (by simp [bits_Len64.j0])
  | succ kj1 =>
   have H := HA.out
   clear HA
   simp only [bits_Len64.j0] at H
   by_cases c4 : x0_1 ≥ 65536
   ·rw [if_pos c4] at H
    have c4b0 : decide (65536 ≤ x0_1) = true := decide_eq_true c4
    clear c4
    by_cases c5 : (x0_1 / 65536) ≥ 256
    ·rw [if_pos c5] at H
     have c5b0 : decide (256 ≤ (x0_1 / 65536)) = true := decide_eq_true c5
     clear c5
     obtain ⟨ji6, hji6⟩ : ∃ j_ : Int, (((x0_1 / 65536) / 256) % 256) = j_ := ⟨_, rfl⟩
     replace H : (if 0 ≤ (ji6) then (if (ji6) < 256 then (some (wrap64 ((wrap64 ((wrap64 (x2_1 + 16)) + 8)) + (wrap64 (bt (⟨#[0, 1, 2, 2, 3, 3, 3, 3, 4, 4, 4, 4, 4, 4, 4, 4, 5, 5, 5, 5, 5, 5, 5, 5, 5, 5, 5, 5, 5, 5, 5, 5, 6, 6, 6, 6, 6, 6, 6, 6, 6, 6, 6, 6, 6, 6, 6, 6, 6, 6, 6, 6, 6, 6, 6, 6, 6, 6, 6, 6, 6, 6, 6, 6, 7, 7, 7, 7, 7, 7, 7, 7, 7, 7, 7, 7, 7, 7, 7, 7, 7, 7, 7, 7, 7, 7, 7, 7, 7, 7, 7, 7, 7, 7, 7, 7, 7, 7, 7, 7, 7, 7, 7, 7, 7, 7, 7, 7, 7, 7, 7, 7, 7, 7, 7, 7, 7, 7, 7, 7, 7, 7, 7, 7, 7, 7, 7, 7, 8, 8, 8, 8, 8, 8, 8, 8, 8, 8, 8, 8, 8, 8, 8, 8, 8, 8, 8, 8, 8, 8, 8, 8, 8, 8, 8, 8, 8, 8, 8, 8, 8, 8, 8, 8, 8, 8, 8, 8, 8, 8, 8, 8, 8, 8, 8, 8, 8, 8, 8, 8, 8, 8, 8, 8, 8, 8, 8, 8, 8, 8, 8, 8, 8, 8, 8, 8, 8, 8, 8, 8, 8, 8, 8, 8, 8, 8, 8, 8, 8, 8, 8, 8, 8, 8, 8, 8, 8, 8, 8, 8, 8, 8, 8, 8, 8, 8, 8, 8, 8, 8, 8, 8, 8, 8, 8, 8, 8, 8, 8, 8, 8, 8, 8, 8, 8, 8, 8, 8, 8, 8, 8, 8, 8, 8, 8, 8]⟩ : ByteArray) (ji6)))))) else (none)) else (none)) = some r := by first | (rw [hji6] at H; exact H) | (simp only [hji6] at H ⊢; exact H)
     by_cases c7 : 0 ≤ (ji6)
     ·rw [if_pos c7] at H
      have c7b0 : decide (0 ≤ (ji6)) = true := decide_eq_true c7
      clear c7
      by_cases c8 : (ji6) < 256
      ·rw [if_pos c8] at H
       have c8b0 : decide ((ji6) < 256) = true := decide_eq_true c8
       clear c8
       obtain rfl := Option.some.inj H
       have p9 : 0 ≤ ((ji6) : Int) := of_decide_eq_true (by assumption)
       have q9 : (ji6) < (256 : Int) := of_decide_eq_true (by assumption)
       have hx9 := bt_at (⟨#[0, 1, 2, 2, 3, 3, 3, 3, 4, 4, 4, 4, 4, 4, 4, 4, 5, 5, 5, 5, 5, 5, 5, 5, 5, 5, 5, 5, 5, 5, 5, 5, 6, 6, 6, 6, 6, 6, 6, 6, 6, 6, 6, 6, 6, 6, 6, 6, 6, 6, 6, 6, 6, 6, 6, 6, 6, 6, 6, 6, 6, 6, 6, 6, 7, 7, 7, 7, 7, 7, 7, 7, 7, 7, 7, 7, 7, 7, 7, 7, 7, 7, 7, 7, 7, 7, 7, 7, 7, 7, 7, 7, 7, 7, 7, 7, 7, 7, 7, 7, 7, 7, 7, 7, 7, 7, 7, 7, 7, 7, 7, 7, 7, 7, 7, 7, 7, 7, 7, 7, 7, 7, 7, 7, 7, 7, 7, 7, 8, 8, 8, 8, 8, 8, 8, 8, 8, 8, 8, 8, 8, 8, 8, 8, 8, 8, 8, 8, 8, 8, 8, 8, 8, 8, 8, 8, 8, 8, 8, 8, 8, 8, 8, 8, 8, 8, 8, 8, 8, 8, 8, 8, 8, 8, 8, 8, 8, 8, 8, 8, 8, 8, 8, 8, 8, 8, 8, 8, 8, 8, 8, 8, 8, 8, 8, 8, 8, 8, 8, 8, 8, 8, 8, 8, 8, 8, 8, 8, 8, 8, 8, 8, 8, 8, 8, 8, 8, 8, 8, 8, 8, 8, 8, 8, 8, 8, 8, 8, 8, 8, 8, 8, 8, 8, 8, 8, 8, 8, 8, 8, 8, 8, 8, 8, 8, 8, 8, 8, 8, 8, 8, 8, 8, 8, 8, 8]⟩ : ByteArray) (ji6)
       replace p9 := eq_true p9
       replace q9 := eq_true q9
       go_wp2
       go_ret
       exact ⟨by first | rfl | (simp; done) | (simp only [← hji6] <;> (first | rfl | simp)) | (simp [*]; done), by repeat (first | exact Drawn0.refl _ | apply Drawn0.step)⟩
      ·rw [if_neg c8] at H
       exact absurd H (by simp)
     ·rw [if_neg c7] at H
      exact absurd H (by simp)
    ·rw [if_neg c5] at H
     have c5b0 : decide (256 ≤ (x0_1 / 65536)) = false := decide_eq_false c5
     clear c5
     obtain ⟨ji10, hji10⟩ : ∃ j_ : Int, ((x0_1 / 65536) % 256) = j_ := ⟨_, rfl⟩
     replace H : (if 0 ≤ (ji10) then (if (ji10) < 256 then (some (wrap64 ((wrap64 (x2_1 + 16)) + (wrap64 (bt (⟨#[0, 1, 2, 2, 3, 3, 3, 3, 4, 4, 4, 4, 4, 4, 4, 4, 5, 5, 5, 5, 5, 5, 5, 5, 5, 5, 5, 5, 5, 5, 5, 5, 6, 6, 6, 6, 6, 6, 6, 6, 6, 6, 6, 6, 6, 6, 6, 6, 6, 6, 6, 6, 6, 6, 6, 6, 6, 6, 6, 6, 6, 6, 6, 6, 7, 7, 7, 7, 7, 7, 7, 7, 7, 7, 7, 7, 7, 7, 7, 7, 7, 7, 7, 7, 7, 7, 7, 7, 7, 7, 7, 7, 7, 7, 7, 7, 7, 7, 7, 7, 7, 7, 7, 7, 7, 7, 7, 7, 7, 7, 7, 7, 7, 7, 7, 7, 7, 7, 7, 7, 7, 7, 7, 7, 7, 7, 7, 7, 8, 8, 8, 8, 8, 8, 8, 8, 8, 8, 8, 8, 8, 8, 8, 8, 8, 8, 8, 8, 8, 8, 8, 8, 8, 8, 8, 8, 8, 8, 8, 8, 8, 8, 8, 8, 8, 8, 8, 8, 8, 8, 8, 8, 8, 8, 8, 8, 8, 8, 8, 8, 8, 8, 8, 8, 8, 8, 8, 8, 8, 8, 8, 8, 8, 8, 8, 8, 8, 8, 8, 8, 8, 8, 8, 8, 8, 8, 8, 8, 8, 8, 8, 8, 8, 8, 8, 8, 8, 8, 8, 8, 8, 8, 8, 8, 8, 8, 8, 8, 8, 8, 8, 8, 8, 8, 8, 8, 8, 8, 8, 8, 8, 8, 8, 8, 8, 8, 8, 8, 8, 8, 8, 8, 8, 8, 8, 8]⟩ : ByteArray) (ji10)))))) else (none)) else (none)) = some r := by first | (rw [hji10] at H; exact H) | (simp only [hji10] at H ⊢; exact H)
     by_cases c11 : 0 ≤ (ji10)
     ·rw [if_pos c11] at H
      have c11b0 : decide (0 ≤ (ji10)) = true := decide_eq_true c11
      clear c11
      by_cases c12 : (ji10) < 256
      ·rw [if_pos c12] at H
       have c12b0 : decide ((ji10) < 256) = true := decide_eq_true c12
       clear c12
       obtain rfl := Option.some.inj H
       have p13 : 0 ≤ ((ji10) : Int) := of_decide_eq_true (by assumption)
       have q13 : (ji10) < (256 : Int) := of_decide_eq_true (by assumption)
       have hx13 := bt_at (⟨#[0, 1, 2, 2, 3, 3, 3, 3, 4, 4, 4, 4, 4, 4, 4, 4, 5, 5, 5, 5, 5, 5, 5, 5, 5, 5, 5, 5, 5, 5, 5, 5, 6, 6, 6, 6, 6, 6, 6, 6, 6, 6, 6, 6, 6, 6, 6, 6, 6, 6, 6, 6, 6, 6, 6, 6, 6, 6, 6, 6, 6, 6, 6, 6, 7, 7, 7, 7, 7, 7, 7, 7, 7, 7, 7, 7, 7, 7, 7, 7, 7, 7, 7, 7, 7, 7, 7, 7, 7, 7, 7, 7, 7, 7, 7, 7, 7, 7, 7, 7, 7, 7, 7, 7, 7, 7, 7, 7, 7, 7, 7, 7, 7, 7, 7, 7, 7, 7, 7, 7, 7, 7, 7, 7, 7, 7, 7, 7, 8, 8, 8, 8, 8, 8, 8, 8, 8, 8, 8, 8, 8, 8, 8, 8, 8, 8, 8, 8, 8, 8, 8, 8, 8, 8, 8, 8, 8, 8, 8, 8, 8, 8, 8, 8, 8, 8, 8, 8, 8, 8, 8, 8, 8, 8, 8, 8, 8, 8, 8, 8, 8, 8, 8, 8, 8, 8, 8, 8, 8, 8, 8, 8, 8, 8, 8, 8, 8, 8, 8, 8, 8, 8, 8, 8, 8, 8, 8, 8, 8, 8, 8, 8, 8, 8, 8, 8, 8, 8, 8, 8, 8, 8, 8, 8, 8, 8, 8, 8, 8, 8, 8, 8, 8, 8, 8, 8, 8, 8, 8, 8, 8, 8, 8, 8, 8, 8, 8, 8, 8, 8, 8, 8, 8, 8, 8, 8]⟩ : ByteArray) (ji10)
       replace p13 := eq_true p13
       replace q13 := eq_true q13
       go_wp2
       go_ret
       exact ⟨by first | rfl | (simp; done) | (simp only [← hji10] <;> (first | rfl | simp)) | (simp [*]; done), by repeat (first | exact Drawn0.refl _ | apply Drawn0.step)⟩
      ·rw [if_neg c12] at H
       exact absurd H (by simp)
     ·rw [if_neg c11] at H
      exact absurd H (by simp)
   ·rw [if_neg c4] at H
    have c4b0 : decide (65536 ≤ x0_1) = false := decide_eq_false c4
    clear c4
    by_cases c14 : x0_1 ≥ 256
    ·rw [if_pos c14] at H
     have c14b0 : decide (256 ≤ x0_1) = true := decide_eq_true c14
     clear c14
     obtain ⟨ji15, hji15⟩ : ∃ j_ : Int, ((x0_1 / 256) % 256) = j_ := ⟨_, rfl⟩
     replace H : (if 0 ≤ (ji15) then (if (ji15) < 256 then (some (wrap64 ((wrap64 (x2_1 + 8)) + (wrap64 (bt (⟨#[0, 1, 2, 2, 3, 3, 3, 3, 4, 4, 4, 4, 4, 4, 4, 4, 5, 5, 5, 5, 5, 5, 5, 5, 5, 5, 5, 5, 5, 5, 5, 5, 6, 6, 6, 6, 6, 6, 6, 6, 6, 6, 6, 6, 6, 6, 6, 6, 6, 6, 6, 6, 6, 6, 6, 6, 6, 6, 6, 6, 6, 6, 6, 6, 7, 7, 7, 7, 7, 7, 7, 7, 7, 7, 7, 7, 7, 7, 7, 7, 7, 7, 7, 7, 7, 7, 7, 7, 7, 7, 7, 7, 7, 7, 7, 7, 7, 7, 7, 7, 7, 7, 7, 7, 7, 7, 7, 7, 7, 7, 7, 7, 7, 7, 7, 7, 7, 7, 7, 7, 7, 7, 7, 7, 7, 7, 7, 7, 8, 8, 8, 8, 8, 8, 8, 8, 8, 8, 8, 8, 8, 8, 8, 8, 8, 8, 8, 8, 8, 8, 8, 8, 8, 8, 8, 8, 8, 8, 8, 8, 8, 8, 8, 8, 8, 8, 8, 8, 8, 8, 8, 8, 8, 8, 8, 8, 8, 8, 8, 8, 8, 8, 8, 8, 8, 8, 8, 8, 8, 8, 8, 8, 8, 8, 8, 8, 8, 8, 8, 8, 8, 8, 8, 8, 8, 8, 8, 8, 8, 8, 8, 8, 8, 8, 8, 8, 8, 8, 8, 8, 8, 8, 8, 8, 8, 8, 8, 8, 8, 8, 8, 8, 8, 8, 8, 8, 8, 8, 8, 8, 8, 8, 8, 8, 8, 8, 8, 8, 8, 8, 8, 8, 8, 8, 8, 8]⟩ : ByteArray) (ji15)))))) else (none)) else (none)) = some r := by first | (rw [hji15] at H; exact H) | (simp only [hji15] at H ⊢; exact H)
     by_cases c16 : 0 ≤ (ji15)
     ·rw [if_pos c16] at H
      have c16b0 : decide (0 ≤ (ji15)) = true := decide_eq_true c16
      clear c16
      by_cases c17 : (ji15) < 256
      ·rw [if_pos c17] at H
       have c17b0 : decide ((ji15) < 256) = true := decide_eq_true c17
       clear c17
       obtain rfl := Option.some.inj H
       have p18 : 0 ≤ ((ji15) : Int) := of_decide_eq_true (by assumption)
       have q18 : (ji15) < (256 : Int) := of_decide_eq_true (by assumption)
       have hx18 := bt_at (⟨#[0, 1, 2, 2, 3, 3, 3, 3, 4, 4, 4, 4, 4, 4, 4, 4, 5, 5, 5, 5, 5, 5, 5, 5, 5, 5, 5, 5, 5, 5, 5, 5, 6, 6, 6, 6, 6, 6, 6, 6, 6, 6, 6, 6, 6, 6, 6, 6, 6, 6, 6, 6, 6, 6, 6, 6, 6, 6, 6, 6, 6, 6, 6, 6, 7, 7, 7, 7, 7, 7, 7, 7, 7, 7, 7, 7, 7, 7, 7, 7, 7, 7, 7, 7, 7, 7, 7, 7, 7, 7, 7, 7, 7, 7, 7, 7, 7, 7, 7, 7, 7, 7, 7, 7, 7, 7, 7, 7, 7, 7, 7, 7, 7, 7, 7, 7, 7, 7, 7, 7, 7, 7, 7, 7, 7, 7, 7, 7, 8, 8, 8, 8, 8, 8, 8, 8, 8, 8, 8, 8, 8, 8, 8, 8, 8, 8, 8, 8, 8, 8, 8, 8, 8, 8, 8, 8, 8, 8, 8, 8, 8, 8, 8, 8, 8, 8, 8, 8, 8, 8, 8, 8, 8, 8, 8, 8, 8, 8, 8, 8, 8, 8, 8, 8, 8, 8, 8, 8, 8, 8, 8, 8, 8, 8, 8, 8, 8, 8, 8, 8, 8, 8, 8, 8, 8, 8, 8, 8, 8, 8, 8, 8, 8, 8, 8, 8, 8, 8, 8, 8, 8, 8, 8, 8, 8, 8, 8, 8, 8, 8, 8, 8, 8, 8, 8, 8, 8, 8, 8, 8, 8, 8, 8, 8, 8, 8, 8, 8, 8, 8, 8, 8, 8, 8, 8, 8]⟩ : ByteArray) (ji15)
       replace p18 := eq_true p18
       replace q18 := eq_true q18
       go_wp2
       go_ret
       exact ⟨by first | rfl | (simp; done) | (simp only [← hji15] <;> (first | rfl | simp)) | (simp [*]; done), by repeat (first | exact Drawn0.refl _ | apply Drawn0.step)⟩
      ·rw [if_neg c17] at H
       exact absurd H (by simp)
     ·rw [if_neg c16] at H
      exact absurd H (by simp)
    ·rw [if_neg c14] at H
     have c14b0 : decide (256 ≤ x0_1) = false := decide_eq_false c14
     clear c14
     obtain ⟨ji19, hji19⟩ : ∃ j_ : Int, ((x0_1) % 256) = j_ := ⟨_, rfl⟩
     replace H : (if 0 ≤ (ji19) then (if (ji19) < 256 then (some (wrap64 (x2_1 + (wrap64 (bt (⟨#[0, 1, 2, 2, 3, 3, 3, 3, 4, 4, 4, 4, 4, 4, 4, 4, 5, 5, 5, 5, 5, 5, 5, 5, 5, 5, 5, 5, 5, 5, 5, 5, 6, 6, 6, 6, 6, 6, 6, 6, 6, 6, 6, 6, 6, 6, 6, 6, 6, 6, 6, 6, 6, 6, 6, 6, 6, 6, 6, 6, 6, 6, 6, 6, 7, 7, 7, 7, 7, 7, 7, 7, 7, 7, 7, 7, 7, 7, 7, 7, 7, 7, 7, 7, 7, 7, 7, 7, 7, 7, 7, 7, 7, 7, 7, 7, 7, 7, 7, 7, 7, 7, 7, 7, 7, 7, 7, 7, 7, 7, 7, 7, 7, 7, 7, 7, 7, 7, 7, 7, 7, 7, 7, 7, 7, 7, 7, 7, 8, 8, 8, 8, 8, 8, 8, 8, 8, 8, 8, 8, 8, 8, 8, 8, 8, 8, 8, 8, 8, 8, 8, 8, 8, 8, 8, 8, 8, 8, 8, 8, 8, 8, 8, 8, 8, 8, 8, 8, 8, 8, 8, 8, 8, 8, 8, 8, 8, 8, 8, 8, 8, 8, 8, 8, 8, 8, 8, 8, 8, 8, 8, 8, 8, 8, 8, 8, 8, 8, 8, 8, 8, 8, 8, 8, 8, 8, 8, 8, 8, 8, 8, 8, 8, 8, 8, 8, 8, 8, 8, 8, 8, 8, 8, 8, 8, 8, 8, 8, 8, 8, 8, 8, 8, 8, 8, 8, 8, 8, 8, 8, 8, 8, 8, 8, 8, 8, 8, 8, 8, 8, 8, 8, 8, 8, 8, 8]⟩ : ByteArray) (ji19)))))) else (none)) else (none)) = some r := by first | (rw [hji19] at H; exact H) | (simp only [hji19] at H ⊢; exact H)
     by_cases c20 : 0 ≤ (ji19)
     ·rw [if_pos c20] at H
      have c20b0 : decide (0 ≤ (ji19)) = true := decide_eq_true c20
      clear c20
      by_cases c21 : (ji19) < 256
      ·rw [if_pos c21] at H
       have c21b0 : decide ((ji19) < 256) = true := decide_eq_true c21
       clear c21
       obtain rfl := Option.some.inj H
       have p22 : 0 ≤ ((ji19) : Int) := of_decide_eq_true (by assumption)
       have q22 : (ji19) < (256 : Int) := of_decide_eq_true (by assumption)
       have hx22 := bt_at (⟨#[0, 1, 2, 2, 3, 3, 3, 3, 4, 4, 4, 4, 4, 4, 4, 4, 5, 5, 5, 5, 5, 5, 5, 5, 5, 5, 5, 5, 5, 5, 5, 5, 6, 6, 6, 6, 6, 6, 6, 6, 6, 6, 6, 6, 6, 6, 6, 6, 6, 6, 6, 6, 6, 6, 6, 6, 6, 6, 6, 6, 6, 6, 6, 6, 7, 7, 7, 7, 7, 7, 7, 7, 7, 7, 7, 7, 7, 7, 7, 7, 7, 7, 7, 7, 7, 7, 7, 7, 7, 7, 7, 7, 7, 7, 7, 7, 7, 7, 7, 7, 7, 7, 7, 7, 7, 7, 7, 7, 7, 7, 7, 7, 7, 7, 7, 7, 7, 7, 7, 7, 7, 7, 7, 7, 7, 7, 7, 7, 8, 8, 8, 8, 8, 8, 8, 8, 8, 8, 8, 8, 8, 8, 8, 8, 8, 8, 8, 8, 8, 8, 8, 8, 8, 8, 8, 8, 8, 8, 8, 8, 8, 8, 8, 8, 8, 8, 8, 8, 8, 8, 8, 8, 8, 8, 8, 8, 8, 8, 8, 8, 8, 8, 8, 8, 8, 8, 8, 8, 8, 8, 8, 8, 8, 8, 8, 8, 8, 8, 8, 8, 8, 8, 8, 8, 8, 8, 8, 8, 8, 8, 8, 8, 8, 8, 8, 8, 8, 8, 8, 8, 8, 8, 8, 8, 8, 8, 8, 8, 8, 8, 8, 8, 8, 8, 8, 8, 8, 8, 8, 8, 8, 8, 8, 8, 8, 8, 8, 8, 8, 8, 8, 8, 8, 8, 8, 8]⟩ : ByteArray) (ji19)
       replace p22 := eq_true p22
       replace q22 := eq_true q22
       go_wp2
       go_ret
       exact ⟨by first | rfl | (simp; done) | (simp only [← hji19] <;> (first | rfl | simp)) | (simp [*]; done), by repeat (first | exact Drawn0.refl _ | apply Drawn0.step)⟩
      ·rw [if_neg c21] at H
       exact absurd H (by simp)
     ·rw [if_neg c20] at H
      exact absurd H (by simp)
end Go.Proofs.Ytalimpniimgheaa.Fn
namespace Go.Proofs.Ytalimpniimgheaa.Fn
open Go.RowKit Go.Proofs.YtalimpniimgheaaW.PrintWords Go.Proofs.YtalimpniimgheaaW.PrintLast Go.Proofs.YtalimpniimgheaaW.PrintMore
attribute [local go_sem] max2_int min2_int max_two min_two max_three min_three max_four min_four
set_option linter.unusedVariables false
set_option linter.unusedSimpArgs false
def bits_Len.f (k : Nat) (a0 : Int) : Option (Int) := (bits_Len64.f k a0).bind fun t360 => (some t360)
set_option maxHeartbeats 8000000 in
set_option maxRecDepth 100000 in
theorem bits_Len.calls (k : Nat) (a0 : Int) (r : Int) (w : World) (h : bits_Len.f k a0 = some r) :
  Calls Try.prog 94 #[.int .u64 a0] w fun e w' => e = .returned (.int .i64 r) ∧ Drawn0 w w' := by
 have H : ((bits_Len64.f k a0).bind fun t360 => (some t360)) = some r := h
 clear h
 replace H := Option.bind_eq_some_iff.mp H
 obtain ⟨t360, A20, H⟩ := H
 replace H : (some t360) = some r := H
 have A2 := asd A20
 clear A20
 obtain rfl := Option.some.inj H
 go_enter Try.func94, Try.ntmps94
 go_wp2_with (first | ((with_reducible refine gate_callee (f := 126) rfl ?_); refine goesL_ (some 7) rfl rfl Try.func126 (by kernel_rfl) rfl #[.int .u64 a0] rfl (by (try simp only [List.map_toArray, List.map_cons, List.map_nil]); first | done | rfl | (simp only [List.length_drop, List.length_take]; rfl)) ?_; (with_reducible refine (bits_Len64.calls k a0 t360 _ A2.out).mono ?_); rintro e w' ⟨rfl, ⟨nd, rfl⟩⟩; refine ⟨_, rfl, ?_⟩))
 go_ret
 exact ⟨by first | rfl | (simp; done) | (simp [*]; done), by repeat (first | exact Drawn0.refl _ | apply Drawn0.step)⟩
end Go.Proofs.Ytalimpniimgheaa.Fn
namespace Go.Proofs.Ytalimpniimgheaa.Fn
open Go.RowKit Go.Proofs.YtalimpniimgheaaW.PrintWords Go.Proofs.YtalimpniimgheaaW.PrintLast Go.Proofs.YtalimpniimgheaaW.PrintMore
attribute [local go_sem] max2_int min2_int max_two min_two max_three min_three max_four min_four
set_option linter.unusedVariables false
set_option linter.unusedSimpArgs false
def pack_Size.f (k : Nat) (a0 : Int) : Option (Int) := if a0 < 0 then (some 0) else ((bits_Len.f k (IntKind.u64.wrap (a0))).bind fun t361 => (some (mx 1 (wrap64 (Int.tdiv (wrap64 ((wrap64 (t361 + 7)) - 1)) 7)))))
set_option maxHeartbeats 8000000 in
set_option maxRecDepth 100000 in
theorem pack_Size.calls (k : Nat) (a0 : Int) (r : Int) (w : World) (h : pack_Size.f k a0 = some r) :
  Calls Try.prog 57 #[.int .i64 a0] w fun e w' => e = .returned (.int .i64 r) ∧ Below w.heap.size w w' := by
 have HB := asd (Below.refl w.heap.size w)
 have H : (if a0 < 0 then (some 0) else ((bits_Len.f k (IntKind.u64.wrap (a0))).bind fun t361 => (some (mx 1 (wrap64 (Int.tdiv (wrap64 ((wrap64 (t361 + 7)) - 1)) 7)))))) = some r := h
 clear h
 by_cases c2 : a0 < 0
 ·rw [if_pos c2] at H
  have c2b0 : decide (a0 < 0) = true := decide_eq_true c2
  clear c2
  obtain rfl := Option.some.inj H
  go_enter Try.func57, Try.ntmps57
  go_wp2
  go_ret
  exact ⟨by first | rfl | (simp [*] <;> rfl), by repeat (first | (with_reducible first | exact HB.out | apply wa | apply wn | apply wd) | exact HB.out)⟩
 ·rw [if_neg c2] at H
  have c2b0 : decide (a0 < 0) = false := decide_eq_false c2
  clear c2
  replace H := Option.bind_eq_some_iff.mp H
  obtain ⟨t361, A30, H⟩ := H
  replace H : (some (mx 1 (wrap64 (Int.tdiv (wrap64 ((wrap64 (t361 + 7)) - 1)) 7)))) = some r := H
  have A3 := asd A30
  clear A30
  obtain ⟨ji4, hji4⟩ : ∃ j_ : Int, (mx 1 (wrap64 (Int.tdiv (wrap64 ((wrap64 (t361 + 7)) - 1)) 7))) = j_ := ⟨_, rfl⟩
  replace H : (some ji4) = some r := by first | (rw [hji4] at H; exact H) | (simp only [hji4] at H ⊢; exact H)
  (try rw [hji4] at A3)
  (try (have hji4l : 1 ≤ ji4 := by (rw [← hji4]; unfold mx; (repeat' split) <;> omega)))
  (try (have hji4m : 0 ≤ ji4 := by omega))
  have hji4_ : (if 1 < (wrap64 (Int.tdiv (wrap64 ((wrap64 (t361 + 7)) - 1)) 7)) then (wrap64 (Int.tdiv (wrap64 ((wrap64 (t361 + 7)) - 1)) 7)) else 1) = ji4 := hji4
  obtain rfl := Option.some.inj H
  go_enter Try.func57, Try.ntmps57
  go_wp2_with (first | ((with_reducible refine gate_callee (f := 94) rfl ?_); refine goesL_ (some 7) rfl rfl Try.func94 (by kernel_rfl) rfl #[.int .u64 (IntKind.u64.wrap (a0))] rfl (by (try simp only [List.map_toArray, List.map_cons, List.map_nil]); first | done | rfl | (simp only [List.length_drop, List.length_take]; rfl)) ?_; (with_reducible refine (bits_Len.calls k (IntKind.u64.wrap (a0)) t361 _ A3.out).mono ?_); rintro e w' ⟨rfl, ⟨nd, rfl⟩⟩; refine ⟨_, rfl, ?_⟩))
  go_ret
  exact ⟨by first | rfl | (simp [errW_none, errW_some] <;> rfl) | (simp only [← hji4]; first | rfl | (simp [errW_none, errW_some] <;> rfl)) | (simp [*, errW_none, errW_some] <;> rfl), by repeat (first | (with_reducible first | exact HB.out | apply wa | apply wn | apply wd) | exact HB.out)⟩
end Go.Proofs.Ytalimpniimgheaa.Fn
namespace Go.Proofs.Ytalimpniimgheaa.Fn
open Go.RowKit Go.Proofs.YtalimpniimgheaaW.PrintWords Go.Proofs.YtalimpniimgheaaW.PrintLast Go.Proofs.YtalimpniimgheaaW.PrintMore
attribute [local go_sem] max2_int min2_int max_two min_two max_three min_three max_four min_four
set_option linter.unusedVariables false
set_option linter.unusedSimpArgs false
def parcloseref36_Size.l0 : Nat → Int → Int → Option (Int)
 | 0, _, _ => none
 | k + 1, x0, x3 => if x0 > 127 then (parcloseref36_Size.l0 k (wrap64 (Int.tdiv x0 128)) (wrap64 (x3 + 1))) else (some x3)
def parcloseref36_Size.f (k : Nat) (a0 : Int) : Option (Int) := if a0 < 0 then (some 0) else (parcloseref36_Size.l0 k a0 1)
end Go.Proofs.Ytalimpniimgheaa.Fn
namespace Go.Proofs.Ytalimpniimgheaa.Fn
open Go.RowKit Go.Proofs.YtalimpniimgheaaW.PrintWords Go.Proofs.YtalimpniimgheaaW.PrintLast Go.Proofs.YtalimpniimgheaaW.PrintMore
attribute [local go_sem] max2_int min2_int max_two min_two max_three min_three max_four min_four
set_option linter.unusedVariables false
set_option linter.unusedSimpArgs false
def parcloseref36_Sum.l0 : Nat → List Int → Int → Int → Option (Int)
 | 0, _, _, _ => none
 | k + 1, x0, x3, x4 => if x4 < (x0.length : Int) then (if 0 ≤ x4 then (parcloseref36_Sum.l0 k x0 (Int.tmod (wrap64 ((wrap64 ((wrap64 (31 * x3)) + (wrap64 (rd x0 x4)))) + 7)) 65521) (wrap64 (x4 + 1))) else (none)) else (some x3)
def parcloseref36_Sum.f (k : Nat) (l0 : List Int) : Option (Int) := parcloseref36_Sum.l0 k l0 0 0
end Go.Proofs.Ytalimpniimgheaa.Fn
namespace Go.Proofs.Ytalimpniimgheaa.Fn
open Go.RowKit Go.Proofs.YtalimpniimgheaaW.PrintWords Go.Proofs.YtalimpniimgheaaW.PrintLast Go.Proofs.YtalimpniimgheaaW.PrintMore
attribute [local go_sem] max2_int min2_int max_two min_two max_three min_three max_four min_four
set_option linter.unusedVariables false
set_option linter.unusedSimpArgs false
def parcloseref02_power.l0 : Nat → Int → Int → Int → Option (Int)
 | 0, _, _, _ => none
 | k + 1, x0, x3, x4 => if x4 < x0 then (if x4 < 7 then (parcloseref02_power.l0 k x0 (wrap64 (x3 * 256)) (wrap64 (x4 + 1))) else (some x3)) else (some x3)
def parcloseref02_power.f (k : Nat) (a0 : Int) : Option (Int) := parcloseref02_power.l0 k a0 1 0
end Go.Proofs.Ytalimpniimgheaa.Fn
namespace Go.Proofs.Ytalimpniimgheaa.Fn
open Go.RowKit Go.Proofs.YtalimpniimgheaaW.PrintWords Go.Proofs.YtalimpniimgheaaW.PrintLast Go.Proofs.YtalimpniimgheaaW.PrintMore
attribute [local go_sem] max2_int min2_int max_two min_two max_three min_three max_four min_four
set_option linter.unusedVariables false
set_option linter.unusedSimpArgs false
def parcloseref02_Number.l0 : Nat → Int → List Int → Int → Option (List Int)
 | 0, _, _, _ => none
 | k + 1, x1, x5, x6 => if x6 ≥ 0 then ((parcloseref02_power.f k x6).bind fun t370 => (if t370 = 0 then (none) else (if x5.length < 140737488355328 then (parcloseref02_Number.l0 k x1 (x5 ++ [(Int.tmod (wrap64 (Int.tdiv x1 t370)) 256) % 256]) (wrap64 (x6 - 1))) else (none)))) else (some x5)
def parcloseref02_Number.f (k : Nat) (a0 : Int) (a1 : Int) : Option (List Int) := parcloseref02_Number.l0 k a1 ([] : List Int) (wrap64 (a0 - 1))
end Go.Proofs.Ytalimpniimgheaa.Fn
namespace Go.Proofs.Ytalimpniimgheaa.Fn
open Go.RowKit Go.Proofs.YtalimpniimgheaaW.PrintWords Go.Proofs.YtalimpniimgheaaW.PrintLast Go.Proofs.YtalimpniimgheaaW.PrintMore
set_option linter.unusedVariables false
set_option linter.unusedSimpArgs false
def lenTab : ByteArray := (⟨#[0, 1, 2, 2, 3, 3, 3, 3, 4, 4, 4, 4, 4, 4, 4, 4, 5, 5, 5, 5, 5, 5, 5, 5, 5, 5, 5, 5, 5, 5, 5, 5, 6, 6, 6, 6, 6, 6, 6, 6, 6, 6, 6, 6, 6, 6, 6, 6, 6, 6, 6, 6, 6, 6, 6, 6, 6, 6, 6, 6, 6, 6, 6, 6, 7, 7, 7, 7, 7, 7, 7, 7, 7, 7, 7, 7, 7, 7, 7, 7, 7, 7, 7, 7, 7, 7, 7, 7, 7, 7, 7, 7, 7, 7, 7, 7, 7, 7, 7, 7, 7, 7, 7, 7, 7, 7, 7, 7, 7, 7, 7, 7, 7, 7, 7, 7, 7, 7, 7, 7, 7, 7, 7, 7, 7, 7, 7, 7, 8, 8, 8, 8, 8, 8, 8, 8, 8, 8, 8, 8, 8, 8, 8, 8, 8, 8, 8, 8, 8, 8, 8, 8, 8, 8, 8, 8, 8, 8, 8, 8, 8, 8, 8, 8, 8, 8, 8, 8, 8, 8, 8, 8, 8, 8, 8, 8, 8, 8, 8, 8, 8, 8, 8, 8, 8, 8, 8, 8, 8, 8, 8, 8, 8, 8, 8, 8, 8, 8, 8, 8, 8, 8, 8, 8, 8, 8, 8, 8, 8, 8, 8, 8, 8, 8, 8, 8, 8, 8, 8, 8, 8, 8, 8, 8, 8, 8, 8, 8, 8, 8, 8, 8, 8, 8, 8, 8, 8, 8, 8, 8, 8, 8, 8, 8, 8, 8, 8, 8, 8, 8, 8, 8, 8, 8, 8, 8]⟩ : ByteArray)
theorem lenTab_all : ∀ i : Fin 256, (i.val < 2 ^ (bt lenTab (i.val : Int)).toNat) ∧ (1 ≤ i.val → 1 ≤ (bt lenTab (i.val : Int)).toNat ∧ 2 ^ ((bt lenTab (i.val : Int)).toNat - 1) ≤ i.val) ∧ (bt lenTab (i.val : Int)).toNat ≤ 8 := by decide +kernel
def HasLen (n r : Nat) : Prop := n < 2 ^ r ∧ (1 ≤ n → 1 ≤ r ∧ 2 ^ (r - 1) ≤ n)
theorem hasLen_shift {n s r : Nat} (h : HasLen (n / 2 ^ s) r) (hp : 1 ≤ n / 2 ^ s) : HasLen n (s + r) := by
 have h2 := h.2 hp
 have hpos : 0 < 2 ^ s := Nat.pow_pos (by omega)
 constructor
 ·rw [Nat.pow_add]
  have := (Nat.div_lt_iff_lt_mul hpos).1 h.1
  rwa [Nat.mul_comm]
 ·intro _
  refine ⟨by omega, ?_⟩
  rw [show s + r - 1 = s + (r - 1) by omega, Nat.pow_add, Nat.mul_comm]
  exact (Nat.le_div_iff_mul_le hpos).1 h2.2
theorem tab_len (i : Nat) (h : i < 256) : ∃ r : Nat, bt lenTab (i : Int) = (r : Int) ∧ r ≤ 8 ∧ HasLen i r := by
 have h1 := lenTab_all ⟨i, h⟩
 have h2 := bt_range lenTab (i : Int)
 exact ⟨(bt lenTab (i : Int)).toNat, by omega, h1.2.2, h1.1, h1.2.1⟩
theorem j0_ex : ∃ T : ByteArray, (∀ x c : Int, bits_Len64.j0 1 x c = if x ≥ 65536 then (if (x / 65536) ≥ 256 then (if 0 ≤ (((x / 65536) / 256) % 256) then (if (((x / 65536) / 256) % 256) < 256 then (some (wrap64 ((wrap64 ((wrap64 (c + 16)) + 8)) + (wrap64 (bt T (((x / 65536) / 256) % 256)))))) else (none)) else (none)) else (if 0 ≤ ((x / 65536) % 256) then (if ((x / 65536) % 256) < 256 then (some (wrap64 ((wrap64 (c + 16)) + (wrap64 (bt T ((x / 65536) % 256)))))) else (none)) else (none))) else (if x ≥ 256 then (if 0 ≤ ((x / 256) % 256) then (if ((x / 256) % 256) < 256 then (some (wrap64 ((wrap64 (c + 8)) + (wrap64 (bt T ((x / 256) % 256)))))) else (none)) else (none)) else (if 0 ≤ ((x) % 256) then (if ((x) % 256) < 256 then (some (wrap64 (c + (wrap64 (bt T ((x) % 256)))))) else (none)) else (none)))) ∧ ∀ i : Nat, i < 256 → ∃ r : Nat, bt T (i : Int) = (r : Int) ∧ r ≤ 8 ∧ HasLen i r := ⟨lenTab, fun x c => rfl, tab_len⟩
theorem w_a (c r : Nat) (hc : c ≤ 32) (hr : r ≤ 8) : wrap64 (wrap64 (wrap64 ((c : Int) + 16) + 8) + wrap64 (r : Int)) = ((c + (16 + (8 + r)) : Nat) : Int) := by unfold wrap64; omega
theorem w_b (c r : Nat) (hc : c ≤ 32) (hr : r ≤ 8) : wrap64 (wrap64 ((c : Int) + 16) + wrap64 (r : Int)) = ((c + (16 + r) : Nat) : Int) := by unfold wrap64; omega
theorem w_c (c r : Nat) (hc : c ≤ 32) (hr : r ≤ 8) : wrap64 (wrap64 ((c : Int) + 8) + wrap64 (r : Int)) = ((c + (8 + r) : Nat) : Int) := by unfold wrap64; omega
theorem w_d (c r : Nat) (hc : c ≤ 32) (hr : r ≤ 8) : wrap64 ((c : Int) + wrap64 (r : Int)) = ((c + r : Nat) : Int) := by unfold wrap64; omega
theorem len_j0 (x : Nat) (c : Nat) (hc : c ≤ 32) (hx : x < 4294967296) : ∃ r : Nat, bits_Len64.j0 1 (x : Int) (c : Int) = some ((c + r : Nat) : Int) ∧ r ≤ 32 ∧ HasLen x r := by
 have e16 : (2 : Nat) ^ 16 = 65536 := by decide
 have e8 : (2 : Nat) ^ 8 = 256 := by decide
 obtain ⟨T, hT, tab_len⟩ := j0_ex
 rw [hT]
 by_cases h1 : x ≥ 65536
 ·rw [if_pos (by omega)]
  by_cases h2 : x / 65536 ≥ 256
  ·obtain ⟨r, hr, h8, hl⟩ := tab_len (x / 65536 / 256) (by omega)
   have e : ((x : Int) / 65536 / 256) % 256 = ((x / 65536 / 256 : Nat) : Int) := by omega
   rw [if_pos (by omega), if_pos (by omega), if_pos (by omega), e]
   refine ⟨16 + (8 + r), ?_, by omega, ?_⟩
   ·rw [hr, w_a c r hc h8]
   ·refine hasLen_shift (s := 16) (hasLen_shift (s := 8) ?_ ?_) ?_
    ·rw [e16, e8]; exact hl
    ·rw [e16, e8]; omega
    ·rw [e16]; omega
  ·obtain ⟨r, hr, h8, hl⟩ := tab_len (x / 65536) (by omega)
   have e : ((x : Int) / 65536) % 256 = ((x / 65536 : Nat) : Int) := by omega
   rw [if_neg (by omega), if_pos (by omega), if_pos (by omega), e]
   refine ⟨16 + r, ?_, by omega, ?_⟩
   ·rw [hr, w_b c r hc h8]
   ·refine hasLen_shift (s := 16) ?_ ?_
    ·rw [e16]; exact hl
    ·rw [e16]; omega
 ·rw [if_neg (by omega)]
  by_cases h2 : x ≥ 256
  ·obtain ⟨r, hr, h8, hl⟩ := tab_len (x / 256) (by omega)
   have e : ((x : Int) / 256) % 256 = ((x / 256 : Nat) : Int) := by omega
   rw [if_pos (by omega), if_pos (by omega), if_pos (by omega), e]
   refine ⟨8 + r, ?_, by omega, ?_⟩
   ·rw [hr, w_c c r hc h8]
   ·refine hasLen_shift (s := 8) ?_ ?_
    ·rw [e8]; exact hl
    ·rw [e8]; omega
  ·obtain ⟨r, hr, h8, hl⟩ := tab_len x (by omega)
   have e : (x : Int) % 256 = (x : Int) := by omega
   rw [if_neg (by omega), if_pos (by omega), if_pos (by omega), e]
   refine ⟨r, ?_, by omega, hl⟩
   rw [hr, w_d c r hc h8]
theorem len_ev (x : Nat) (hx : x < 18446744073709551616) : ∃ r : Nat, bits_Len.f 1 (x : Int) = some (r : Int) ∧ r ≤ 64 ∧ HasLen x r := by
 unfold bits_Len.f bits_Len64.f
 by_cases h : x ≥ 4294967296
 ·obtain ⟨r, hr, h8, hl⟩ := len_j0 (x / 4294967296) 32 (by omega) (by omega)
  have e : (x : Int) / 4294967296 = ((x / 4294967296 : Nat) : Int) := by omega
  have e32 : (2 : Nat) ^ 32 = 4294967296 := by decide
  rw [if_pos (by omega), e]
  have hr2 : bits_Len64.j0 1 ((x / 4294967296 : Nat) : Int) 32 = some ((32 + r : Nat) : Int) := hr
  rw [hr2]
  exact ⟨32 + r, rfl, by omega, hasLen_shift (s := 32) (by rw [e32]; exact hl) (by rw [e32]; omega)⟩
 ·obtain ⟨r, hr, h8, hl⟩ := len_j0 x 0 (by omega) (by omega)
  rw [if_neg (by omega)]
  have hr2 : bits_Len64.j0 1 (x : Int) 0 = some ((0 + r : Nat) : Int) := hr
  rw [hr2]
  exact ⟨r, by simp, by omega, hl⟩
def grN : Nat → Nat → Nat
 | 0, _ => 1
 | k + 1, n => if n ≤ 127 then 1 else grN k (n / 128) + 1
theorem grN_eq : ∀ (m k n : Nat), m ≤ k → 128 ^ m ≤ n → n < 128 ^ (m + 1) → grN k n = m + 1 := by
 intro m
 induction m with
 | zero =>
  intro k n hk h0 h1
  have h2 : n < 128 := by simpa using h1
  cases k with
  | zero => rfl
  | succ k => show (if n ≤ 127 then 1 else _) = 1; rw [if_pos (by omega)]
 | succ m ih =>
  intro k n hk h0 h1
  obtain ⟨k, rfl⟩ : ∃ j, k = j + 1 := ⟨k - 1, by omega⟩
  have hp : 0 < 128 ^ m := Nat.pow_pos (by omega)
  rw [Nat.pow_succ] at h0 h1
  show (if n ≤ 127 then 1 else grN k (n / 128) + 1) = _
  rw [if_neg (by omega), ih k (n / 128) (by omega) ((Nat.le_div_iff_mul_le (by omega)).2 h0) ((Nat.div_lt_iff_lt_mul (by omega)).2 h1)]
theorem grN_small (k n : Nat) (h : n ≤ 127) : grN k n = 1 := by
 cases k with
 | zero => rfl
 | succ k => show (if n ≤ 127 then 1 else _) = 1; rw [if_pos h]
theorem gr_len {n r : Nat} (h : HasLen n r) (h1 : 1 ≤ n) (k : Nat) (hk : r ≤ k) : grN k n = (r + 6) / 7 := by
 have h2 := h.2 h1
 have e := grN_eq ((r + 6) / 7 - 1) k n (by omega)
 have e7 : (128 : Nat) = 2 ^ 7 := by decide
 have hlo : 128 ^ ((r + 6) / 7 - 1) ≤ n := by
  rw [e7, ← Nat.pow_mul]
  exact Nat.le_trans (Nat.pow_le_pow_right (by omega) (by omega)) h2.2
 have hhi : n < 128 ^ ((r + 6) / 7 - 1 + 1) := by
  rw [e7, ← Nat.pow_mul]
  exact Nat.lt_of_lt_of_le h.1 (Nat.pow_le_pow_right (by omega) (by omega))
 rw [e hlo hhi]; omega
theorem psize_ev (n : Int) (h1 : n ≤ 9223372036854775807) (h0 : 0 ≤ n) : pack_Size.f 1 n = some ((grN 64 n.toNat : Nat) : Int) := by
 obtain ⟨x, rfl⟩ := Int.eq_ofNat_of_zero_le h0
 obtain ⟨r, hr, h64, hl⟩ := len_ev x (by omega)
 have eu : IntKind.u64.wrap (x : Int) = (x : Int) := by rw [IntKind.wrap_u64]; omega
 unfold pack_Size.f
 rw [if_neg (by omega), eu, hr]
 simp only [Option.bind_some, Int.toNat_natCast]
 congr 1
 have w1 : wrap64 (wrap64 ((r : Int) + 7) - 1) = (r : Int) + 6 := by unfold wrap64; omega
 rw [w1, Int.tdiv_eq_ediv_of_nonneg (by omega)]
 have w2 : wrap64 (((r : Int) + 6) / 7) = ((r : Int) + 6) / 7 := by unfold wrap64; omega
 rw [w2]
 by_cases hx : 1 ≤ x
 ·have h2 := gr_len hl hx 64 h64
  have h3 := (hl.2 hx).1
  rw [h2]
  unfold mx
  split <;> omega
 ·obtain rfl : x = 0 := by omega
  have hr0 : r = 0 ∨ 1 ≤ r := by omega
  rw [grN_small 64 0 (by omega)]
  have h4 : (r + 6) / 7 ≤ 1 ∨ 2 ≤ (r + 6) / 7 := by omega
  rcases h4 with h4 | h4
  ·unfold mx; split <;> omega
  ·exfalso
   -- the table has no bits at nothing
   have : bits_Len.f 1 ((0 : Nat) : Int) = some 0 := by decide +kernel
   rw [this] at hr
   have := Option.some.inj hr
   omega
def sizeP (n : Int) : Int := if n < 0 then 0 else ((grN 64 n.toNat : Nat) : Int)
theorem psize_all (n : Int) (h : n ≤ 9223372036854775807) : pack_Size.f 1 n = some (sizeP n) := by
 unfold sizeP
 by_cases h0 : n < 0
 ·unfold pack_Size.f; rw [if_pos h0, if_pos h0]
 ·rw [if_neg h0]; exact psize_ev n h (by omega)
end Go.Proofs.Ytalimpniimgheaa.Fn
namespace Go.Proofs.Ytalimpniimgheaa.Fn
open Go.RowKit Go.Proofs.YtalimpniimgheaaW.PrintWords Go.Proofs.YtalimpniimgheaaW.PrintLast Go.Proofs.YtalimpniimgheaaW.PrintMore
attribute [local go_sem] max2_int min2_int max_two min_two max_three min_three max_four min_four
set_option linter.unusedVariables false
set_option linter.unusedSimpArgs false
mutual
def parcloseref36_Put.l0 : Nat → List (S64) → Int → Option (List Int × Int)
 | 0, _, _ => none
 | k + 1, x0, x4 => if x4 < (x0.length : Int) then (if 0 ≤ x4 then (if ((rd_T64 x0 x4).f1) < 0 then (some (([] : List Int), 2)) else (if ((rd_T64 x0 x4).f1) > 15 then (some (([] : List Int), 2)) else (if ((rd_T64 x0 x4).f0) < 0 then (some (([] : List Int), 2)) else (if ((rd_T64 x0 x4).f0) ≥ 72057594037927936 then (some (([] : List Int), 2)) else (if ((rd_T64 x0 x4).f2) < 0 then (some (([] : List Int), 2)) else (if ((rd_T64 x0 x4).f2) ≥ 72057594037927936 then (some (([] : List Int), 2)) else (if ((rd_T64 x0 x4).f3) < 0 then (some (([] : List Int), 2)) else (if ((rd_T64 x0 x4).f3) ≥ 72057594037927936 then (some (([] : List Int), 2)) else (parcloseref36_Put.l0 k x0 (wrap64 (x4 + 1))))))))))) else (none)) else (if (x0.length : Int) > 65536 then (some (([] : List Int), 11)) else ((parcloseref02_Number.f k 4 (x0.length : Int)).bind fun t376 => (parcloseref36_Put.l1 k x0 t376 0 0)))
def parcloseref36_Put.l1 : Nat → List (S64) → List Int → Int → Int → Option (List Int × Int)
 | 0, _, _, _, _ => none
 | k + 1, x0, x6, x7, x8 => if x8 < (x0.length : Int) then (if 0 ≤ x8 then (if ((rd_T64 x0 x8).f0) = x7 then (parcloseref36_Put.j2 k x0 x6 x8 (wrap64 (((rd_T64 x0 x8).f1) + 64)) ([] : List Int) ((rd_T64 x0 x8).f0) ((rd_T64 x0 x8).f1) ((rd_T64 x0 x8).f2) ((rd_T64 x0 x8).f3)) else (if ((rd_T64 x0 x8).f0) = (wrap64 (x7 + 1)) then (parcloseref36_Put.j2 k x0 x6 x8 (wrap64 (((rd_T64 x0 x8).f1) + 128)) ([] : List Int) ((rd_T64 x0 x8).f0) ((rd_T64 x0 x8).f1) ((rd_T64 x0 x8).f2) ((rd_T64 x0 x8).f3)) else ((parcloseref02_Number.f k 7 ((rd_T64 x0 x8).f0)).bind fun t388 => (if ([] : List Int).length + t388.length < 140737488355328 then (parcloseref36_Put.j2 k x0 x6 x8 ((rd_T64 x0 x8).f1) (([] : List Int) ++ t388) ((rd_T64 x0 x8).f0) ((rd_T64 x0 x8).f1) ((rd_T64 x0 x8).f2) ((rd_T64 x0 x8).f3)) else (none))))) else (none)) else ((parcloseref36_Sum.f k x6).bind fun t379 => ((parcloseref02_Number.f k 2 t379).bind fun t380 => (if x6.length + t380.length < 140737488355328 then (some ((x6 ++ t380), 0)) else (none))))
def parcloseref36_Put.j2 : Nat → List (S64) → List Int → Int → Int → List Int → Int → Int → Int → Int → Option (List Int × Int)
 | 0, _, _, _, _, _, _, _, _, _ => none
 | k + 1, x0, x6, x8, x10, x11, x388000, x388001, x388002, x388003 => if x388002 = 0 then (if x388003 = 0 then (if x6.length < 140737488355328 then ((some (x6 ++ [(wrap64 ((wrap64 (x10 + 16)) + 32)) % 256] : List Int)).bind fun y394 => (if y394.length + x11.length < 140737488355328 then (parcloseref36_Put.l1 k x0 (y394 ++ x11) x388000 (wrap64 (x8 + 1))) else (none))) else (none)) else ((parcloseref02_Number.f k 7 x388003).bind fun t400 => (if x11.length + t400.length < 140737488355328 then ((some (x11 ++ t400 : List Int)).bind fun y403 => (if x6.length < 140737488355328 then ((some (x6 ++ [(wrap64 (x10 + 16)) % 256] : List Int)).bind fun y406 => (if y406.length + y403.length < 140737488355328 then (parcloseref36_Put.l1 k x0 (y406 ++ y403) x388000 (wrap64 (x8 + 1))) else (none))) else (none))) else (none)))) else ((parcloseref02_Number.f k 7 x388002).bind fun t412 => (if x11.length + t412.length < 140737488355328 then ((some (x11 ++ t412 : List Int)).bind fun y415 => (if x388003 = 0 then (if x6.length < 140737488355328 then ((some (x6 ++ [(wrap64 (x10 + 32)) % 256] : List Int)).bind fun y418 => (if y418.length + y415.length < 140737488355328 then (parcloseref36_Put.l1 k x0 (y418 ++ y415) x388000 (wrap64 (x8 + 1))) else (none))) else (none)) else ((parcloseref02_Number.f k 7 x388003).bind fun t424 => (if y415.length + t424.length < 140737488355328 then ((some (y415 ++ t424 : List Int)).bind fun y427 => (if x6.length < 140737488355328 then ((some (x6 ++ [(x10) % 256] : List Int)).bind fun y430 => (if y430.length + y427.length < 140737488355328 then (parcloseref36_Put.l1 k x0 (y430 ++ y427) x388000 (wrap64 (x8 + 1))) else (none))) else (none))) else (none))))) else (none)))
end
def parcloseref36_Put.f (k : Nat) (l0 : List (S64)) : Option (List Int × Int) := parcloseref36_Put.l0 k l0 0
end Go.Proofs.Ytalimpniimgheaa.Fn
namespace Go.Proofs.Ytalimpniimgheaa.Fn
open Go.RowKit Go.Proofs.YtalimpniimgheaaW.PrintWords Go.Proofs.YtalimpniimgheaaW.PrintLast Go.Proofs.YtalimpniimgheaaW.PrintMore
attribute [local go_sem] max2_int min2_int max_two min_two max_three min_three max_four min_four
set_option linter.unusedVariables false
set_option linter.unusedSimpArgs false
def parcloselaw36_owns.l0 : Nat → List (S64) → List (S65) → Int → Option ((List (S65)))
 | 0, _, _, _ => none
 | k + 1, x0, x3, x4 => if x4 < (x0.length : Int) then (if 0 ≤ x4 then (if x3.length < 4398046511104 then (parcloselaw36_owns.l0 k x0 (x3 ++ [(⟨(rd_T64 x0 x4).f0, (rd_T64 x0 x4).f1, (rd_T64 x0 x4).f2, (rd_T64 x0 x4).f3⟩ : S65)]) (wrap64 (x4 + 1))) else (none)) else (none)) else (some x3)
def parcloselaw36_owns.f (k : Nat) (l0 : List (S64)) : Option ((List (S65))) := parcloselaw36_owns.l0 k l0 ([] : List (S65)) 0
set_option maxHeartbeats 8000000 in
set_option maxRecDepth 100000 in
theorem parcloselaw36_owns.calls (k : Nat) (A0 : Option Addr) (c0 : Nat) (l0 : List (S64)) (r : List (S65)) (w : World) (hr0 : Kd.C k64 w A0 l0.length l0) (hc0 : l0.length ≤ c0) (h : parcloselaw36_owns.f k l0 = some r) :
  Calls Try.prog 54 #[.slice A0 l0.length c0] w fun e w' => ∃ v0_ : Value, e = .returned (v0_) ∧ Kd.R k65 65 w' w.heap.size (fun _ => True) v0_ r ∧ Below w.heap.size w w' := by
 have hu64 := Try.underlying64
 have HR0 := asd hr0
 have HC0 := asd hc0
 clear hr0 hc0
 have HB := asd (Below.refl w.heap.size w)
 have H : (parcloselaw36_owns.l0 k l0 ([] : List (S65)) 0) = some r := h
 clear h
 have H' := asd H
 clear H
 go_enter Try.func54, Try.ntmps54
 go_wp2
 go_loopg [3, 4] k (fun kq v3 v4 w' => ∃ (x3_1 : List (S65)) (x4_1 : Int), v4 = .int .i64 x4_1 ∧ Aside0 (parcloselaw36_owns.l0 kq l0 x3_1 x4_1 = some r) ∧ Aside0 (kq ≤ k) ∧ Aside0 (Kd.R k65 65 w' w.heap.size (fun _ => True) v3 x3_1) ∧ Aside0 (Below w.heap.size w w'))
 case atStart => exact ⟨(([] : List (S65))), (0), (by first | rfl | (simp; done) | (simp [*]; done)), H', ⟨Nat.le_refl _⟩, ⟨by first | exact Kd.R_nil _ _ _ _ _ | exact Kd.N_nil _ _ _ _ _ | exact Kd.V_nil _ _ _ _ _ | exact Kd.Q_nil _ _ _ _ _ | exact Kd.S_nil _ _ _ _ _⟩, ⟨by repeat (first | (with_reducible first | exact HB.out | apply wa | apply wn | apply wd) | exact HB.out)⟩⟩
 case round =>
  clear H'
  obtain ⟨x3_1, x4_1, rfl, HA, HK1, HO_3, HB⟩ := hrel
  cases gk with
  | zero => exact absurd HA.out (by simp [parcloselaw36_owns.l0])
  | succ k1 =>
   have H := HA.out
   clear HA
   simp only [parcloselaw36_owns.l0] at H
   by_cases c2 : x4_1 < (l0.length : Int)
   ·rw [if_pos c2] at H
    have c2b0 : decide (x4_1 < (l0.length : Int)) = true := decide_eq_true c2
    clear c2
    by_cases c3 : 0 ≤ x4_1
    ·rw [if_pos c3] at H
     have c3b0 : decide (0 ≤ x4_1) = true := decide_eq_true c3
     clear c3
     by_cases c4 : x3_1.length < 4398046511104
     ·rw [if_pos c4] at H
      have LMc4 := asd c4
      clear c4
      obtain ⟨y366, hy366⟩ : ∃ y_ : List (S65), y_ = (x3_1 ++ [(⟨(rd_T64 l0 x4_1).f0, (rd_T64 l0 x4_1).f1, (rd_T64 l0 x4_1).f2, (rd_T64 l0 x4_1).f3⟩ : S65)]) := ⟨_, rfl⟩
      replace H : (parcloselaw36_owns.l0 k1 l0 y366 (wrap64 (x4_1 + 1))) = some r := by first | (rw [hy366]; with_reducible exact H) | (have H2_ := (Option.bind_some _ _).symm.trans H; rw [hy366]; with_reducible exact H2_) | (have H2_ := (Option.bind_some _ _).symm.trans H; with_reducible exact H2_) | with_reducible exact H | (rw [hy366]; exact H) | exact H
      have Ny366 := asd hy366
      clear hy366
      have H' := asd H
      clear H
      have p365 : 0 ≤ (x4_1 : Int) := of_decide_eq_true (by assumption)
      have q365 : x4_1 < (l0.length : Int) := of_decide_eq_true (by assumption)
      obtain ⟨ad365, e365, hx365_0, hx365_1, hx365_2, hx365_3⟩ := at_T64 HR0.out x4_1 p365 q365
      cases e365
      replace hx365_0 := (HB.out.cell (World.block_lt_of_cell? w _ hx365_0)).trans hx365_0
      replace hx365_1 := (HB.out.cell (World.block_lt_of_cell? w _ hx365_1)).trans hx365_1
      replace hx365_2 := (HB.out.cell (World.block_lt_of_cell? w _ hx365_2)).trans hx365_2
      replace hx365_3 := (HB.out.cell (World.block_lt_of_cell? w _ hx365_3)).trans hx365_3
      replace p365 := eq_true p365
      replace q365 := eq_true q365
      go_wp2_with (first | ((with_reducible refine gate_builtin (b := .append) (xs := #[.tmp 11, .tmp 16]) rfl ?_); at_builtin; refine Kd.R_append k65 (w0 := w) w.heap.size rfl (.tmp 11) (.tmp 16) 31 65 (.agg #[(.int .i64 0), (.int .i64 0), (.int .i64 0), (.int .i64 0)]) 32 rfl Try.underlying31 info65 rfl (by decide) (by omega) u3 x3_1 (⟨(rd_T64 l0 x4_1).f0, (rd_T64 l0 x4_1).f1, (rd_T64 l0 x4_1).f2, (rd_T64 l0 x4_1).f3⟩ : S65) [.int .i64 ((rd_T64 l0 x4_1).f0), .int .i64 ((rd_T64 l0 x4_1).f1), .int .i64 ((rd_T64 l0 x4_1).f2), .int .i64 ((rd_T64 l0 x4_1).f3)] (fun _ => True) (fun _ => False) rfl rfl ?aP (fun _ hk => hk.elim) ?aF ?aO ?aB ?aS ?aL ?_; (case aP => exact k65_mkM _ _ _ (⟨(rd_T64 l0 x4_1).f0, (rd_T64 l0 x4_1).f1, (rd_T64 l0 x4_1).f2, (rd_T64 l0 x4_1).f3⟩ : S65)); (case aB => exact (by repeat (first | (with_reducible first | exact HB.out | apply wa | apply wn | apply wd) | exact HB.out))); (case aF => exact (fun _ _ => trivial)); (case aO => exact (by (with_reducible repeat (first | apply Kd.R_alloc | apply Kd.R_drewN | apply Kd.R_drew)); exact HO_3.out)); (case aS => exact (below_size (by repeat (first | (with_reducible first | exact HB.out | apply wa | apply wn | apply wd) | exact HB.out)))); (case aL => have := LMc4.out; omega); intro v367 w5 ho hb hg hat; rw [← Ny366.out] at ho; have n0_ := asd (hb); have n1_ := asd (ho); clear HB; clear HO_3; have HB := n0_; have HO368 := n1_; clear n0_ n1_; clear ho hb hg hat))
      go_roundg k1
      case measure => have := HK1.out; omega
      case rel => exact ⟨(y366), (wrap64 (x4_1 + 1)), (by first | rfl | (simp; done) | (simp [*]; done)), H', ⟨by have := HK1.out; omega⟩, ⟨by (with_reducible repeat (first | apply Kd.R_alloc | apply Kd.R_drewN | apply Kd.R_drew)); exact HO368.out⟩, ⟨by repeat (first | (with_reducible first | exact HB.out | apply wa | apply wn | apply wd) | exact HB.out)⟩⟩
     ·rw [if_neg c4] at H
      exact absurd H (by simp)
    ·rw [if_neg c3] at H
     exact absurd H (by simp)
   ·rw [if_neg c2] at H
    have c2b0 : decide (x4_1 < (l0.length : Int)) = false := decide_eq_false c2
    clear c2
    obtain rfl := Option.some.inj H
    go_wp2
    go_ret
    exact ⟨_, by first | rfl | (simp [*] <;> rfl), by (with_reducible repeat (first | apply Kd.R_alloc | apply Kd.R_drewN | apply Kd.R_drew)); exact HO_3.out, by repeat (first | (with_reducible first | exact HB.out | apply wa | apply wn | apply wd) | exact HB.out)⟩
end Go.Proofs.Ytalimpniimgheaa.Fn
namespace Go.Proofs.Ytalimpniimgheaa.Fn
open Go.RowKit Go.Proofs.YtalimpniimgheaaW.PrintWords Go.Proofs.YtalimpniimgheaaW.PrintLast Go.Proofs.YtalimpniimgheaaW.PrintMore
set_option linter.unusedVariables false
set_option linter.unusedSimpArgs false
def eP (x : S64) : S65 := ⟨x.f0, x.f1, x.f2, x.f3⟩
theorem pk_rd64 (xs : List S64) (i : Nat) : rd_T64 xs (i : Int) = xs.getD i z64 := by unfold rd_T64; rw [Int.toNat_natCast]
theorem powns_go (l : List S64) (hl : l.length ≤ 100000) : ∀ n (i : Nat), l.length - i = n → i ≤ l.length → ∃ k, parcloselaw36_owns.l0 k l ((l.take i).map eP) (i : Int) = some (l.map eP) := by
 intro n
 induction n with
 | zero =>
  intro i hn hi
  refine ⟨1, ?_⟩
  unfold parcloselaw36_owns.l0
  rw [if_neg (by omega), List.take_of_length_le (by omega)]
 | succ n ih =>
  intro i hn hi
  obtain ⟨k, hk⟩ := ih (i + 1) (by omega) (by omega)
  refine ⟨k + 1, ?_⟩
  have hi2 : i < l.length := by omega
  have hsn : (l.take (i + 1)).map eP = (l.take i).map eP ++ [eP (l.getD i z64)] := by rw [List.take_succ_eq_append_getElem hi2, List.map_append, getD_lt l z64 hi2]; rfl
  rw [hsn] at hk
  unfold parcloselaw36_owns.l0
  rw [if_pos (by omega), if_pos (by omega), if_pos (by rw [List.length_map, List.length_take]; omega), pk_rd64, pk_w64 i (by omega)]
  exact hk
theorem powns_ev (l : List S64) (hl : l.length ≤ 100000) : ∃ k, parcloselaw36_owns.f k l = some (l.map eP) := powns_go l hl _ 0 rfl (Nat.zero_le _)
end Go.Proofs.Ytalimpniimgheaa.Fn
namespace Go.Proofs.Ytalimpniimgheaa.Fn
open Go.RowKit Go.Proofs.YtalimpniimgheaaW.PrintWords Go.Proofs.YtalimpniimgheaaW.PrintLast Go.Proofs.YtalimpniimgheaaW.PrintMore
attribute [local go_sem] max2_int min2_int max_two min_two max_three min_three max_four min_four
set_option linter.unusedVariables false
set_option linter.unusedSimpArgs false
def parcloselaw36_num.f (a0 : Int) : Option (Int) := some a0
set_option maxHeartbeats 8000000 in
set_option maxRecDepth 100000 in
theorem parcloselaw36_num.calls (a0 : Int) (r : Int) (w : World) (h : parcloselaw36_num.f a0 = some r) :
  Calls Try.prog 56 #[.int .i64 a0] w fun e w' => e = .returned (.int .i64 r) ∧ Drawn0 w w' := by
 have H : (some a0) = some r := h
 clear h
 obtain rfl := Option.some.inj H
 go_enter Try.func56, Try.ntmps56
 go_wp2
 go_ret
 exact ⟨by first | rfl | (simp; done) | (simp [*]; done), by repeat (first | exact Drawn0.refl _ | apply Drawn0.step)⟩
end Go.Proofs.Ytalimpniimgheaa.Fn
namespace Go.Proofs.Ytalimpniimgheaa.Fn
open Go.RowKit Go.Proofs.YtalimpniimgheaaW.PrintWords Go.Proofs.YtalimpniimgheaaW.PrintLast Go.Proofs.YtalimpniimgheaaW.PrintMore
set_option linter.unusedVariables false
set_option linter.unusedSimpArgs false
instance decS65 : DecidableEq S65 := fun a b => decidable_of_iff (a.f0 = b.f0 ∧ a.f1 = b.f1 ∧ a.f2 = b.f2 ∧ a.f3 = b.f3) (by cases a; cases b; simp)
def xK : S65 := ⟨1, 3, 5, 0⟩
def bsK : List Int := [0, 0, 0, 1, 163, 0, 0, 0, 0, 0, 0, 5, 23, 139]
theorem putK : putP [xK] = (bsK, 0) := by decide +kernel
theorem getK : getP bsK = ([xK], 0) := by decide +kernel
theorem bytesK : Bytes bsK := by unfold Bytes bsK; simp
theorem C_one65 {w : World} {g t : Nat} {a b c d : Int} (h : w.heap[g]? = some (.cells #[.int .i64 a, .int .i64 b, .int .i64 c, .int .i64 d] t (0, 0))) : Kd.C k65 w (some ⟨g, 0, none⟩) 1 [(⟨a, b, c, d⟩ : S65)] := by
 refine ⟨rfl, by simp, fun _ => ⟨_, rfl, ?_⟩⟩
 intro j p hp
 match j, hp with
 | 0, hp =>
  cases hp
  refine ⟨_, rfl, k65_mk w ⟨a, b, c, d⟩, fun i u hu => ?_⟩
  have h2 := blk_cell h i
  rw [add_plain, show 0 * k65.sz + i = i by simp]
  rw [h2]
  match i with
  | 0 => exact hu
  | 1 => exact hu
  | 2 => exact hu
  | 3 => exact hu
  | i + 4 => exact absurd hu (by simp)
 | j + 1, hp => exact absurd hp (by simp)
theorem at_u8 {w : World} {A : Option Addr} {n : Nat} {ys : List Int} (h : Kd.C (Kd.int .u8) w A n ys) (i : Int) (h0 : 0 ≤ i) (h1 : i < n) : ∃ ad, A = some ad ∧ w.cell? (ad.add i.toNat) = some (.int .u8 (ys.getD i.toNat 0)) := by
 obtain ⟨ad, cc, rfl, _, hK, hc0⟩ := Kd.C_get h 0 i h0 h1
 have ee : cc = [.int .u8 (ys.getD i.toNat 0)] := hK
 subst ee
 refine ⟨ad, rfl, ?_⟩
 have h := hc0 0 _ rfl
 rwa [show i.toNat * (Kd.int .u8).sz + 0 = i.toNat from Nat.mul_one _] at h
theorem sizeK : sizeP 128 = 2 := by decide +kernel
set_option maxHeartbeats 8000000 in
set_option maxRecDepth 100000 in
theorem pknows_calls (w : World) : Calls Try.prog 52 #[] w fun e w' => e = .returned (.bool true) ∧ Below w.heap.size w w' := by
 have hu := Try.underlying65
 have C1 := asd (C_one65 (heap_alloc_new w (.cells #[.int .i64 1, .int .i64 3, .int .i64 5, .int .i64 0] 65)))
 have HB0 := asd (below_alloc (Below.refl w.heap.size w) (.cells #[.int .i64 1, .int .i64 3, .int .i64 5, .int .i64 0] 65))
 have SZ := asd (fun wx => pack_Size.calls 1 128 (sizeP 128) wx (psize_all 128 (by omega)))
 rw [sizeK] at SZ
 go_enter Try.func52, Try.ntmps52
 go_wp2_with fail
 generalize w.alloc (.cells #[.int .i64 1, .int .i64 3, .int .i64 5, .int .i64 0] 65) = w1 at C1 HB0 ⊢
 have PC : Calls Try.prog 53 #[.slice (some ⟨w.heap.size, 0, none⟩) 1 1] w1 fun e w' => ∃ A' c', e = .returned (.tuple #[.slice A' 14 c', .int .i64 0]) ∧ 14 ≤ c' ∧ Kd.C (Kd.int .u8) w' A' 14 bsK ∧ Below w1.heap.size w1 w' := by
  have h := pPut_calls (some ⟨w.heap.size, 0, none⟩) 1 [xK] w1 C1.out (Nat.le_refl _) (by decide)
  rw [putK] at h
  exact h
 refine PC.mono ?_
 rintro e w2 ⟨A2, c2, rfl, hc2, hC2, hb⟩
 have C2 := asd (And.intro hc2 hC2)
 have HB1 := asd (below_step HB0.out hb)
 clear PC hc2 hC2 hb C1 HB0
 go_wp2_with fail
 have GC : Calls Try.prog 61 #[.slice A2 14 c2] w2 fun e w' => ∃ A' c', e = .returned (.tuple #[.slice A' 1 c', .int .i64 0]) ∧ 1 ≤ c' ∧ Kd.C k65 w' A' 1 [xK] ∧ Below w2.heap.size w2 w' := by
  have h := pGet_calls A2 c2 bsK w2 C2.out.2 C2.out.1 bytesK (by decide)
  rw [getK] at h
  exact h
 refine GC.mono ?_
 rintro e w3 ⟨A3, c3, rfl, hc3, hC3, hb⟩
 have C3 := asd (And.intro hc3 hC3)
 have HB := asd (below_step HB1.out hb)
 have C2b := asd (Kd.C_below C2.out.2 hb)
 clear GC hc3 hC3 hb HB1 C2
 go_wp2_with fail
 refine (parcloselaw36_num.calls _ _ _ rfl).mono ?_
 rintro e w4 ⟨rfl, hd⟩
 have HB4 := asd (below_step HB.out hd.below)
 have C2c := asd (Kd.C_below C2b.out hd.below)
 have C3c := asd (Kd.C_below C3.out.2 hd.below)
 clear hd HB C2b C3
 go_wp2_with fail
 refine (parcloselaw36_num.calls _ _ _ rfl).mono ?_
 rintro e w5 ⟨rfl, hd⟩
 have HB5 := asd (below_step HB4.out hd.below)
 obtain ⟨ad2, rfl, y4⟩ := at_u8 (Kd.C_below C2c.out hd.below) 4 (by decide) (by decide)
 obtain ⟨ad3, rfl, _, _, z2, _⟩ := at_T65 (Kd.C_below C3c.out hd.below) 0 (by decide) (by decide)
 have ez : ad2.add 0 = ad2 := by cases ad2; rfl
 have y5 : w5.cell? ⟨ad2.block, ad2.off + 4, none⟩ = some (.int .u8 163) := by
  have h := y4
  rw [show ((4 : Int).toNat) = 0 + 4 from rfl, add_field ad2 0 4 (by omega), ez] at h
  exact h
 have ea : ad3.add ((0 : Int).toNat * 4) = ad3 := by cases ad3; rfl
 rw [ea] at z2
 have z3 : w5.cell? ⟨ad3.block, ad3.off + 2, none⟩ = some (.int .i64 5) := z2
 clear hd HB4 C2c C3c y4 z2 ea ez
 go_wp2_with (first | (go_at_call 57; refine (SZ.out _).mono ?_; rintro e w6 ⟨rfl, hb⟩; have HB6 := asd (below_step HB5.out hb); clear hb))
 go_ret
 exact ⟨rfl, HB6.out⟩
end Go.Proofs.Ytalimpniimgheaa.Fn
namespace Go.Proofs.Ytalimpniimgheaa.Fn
open Go.RowKit Go.Proofs.YtalimpniimgheaaW.PrintWords Go.Proofs.YtalimpniimgheaaW.PrintLast Go.Proofs.YtalimpniimgheaaW.PrintMore
set_option linter.unusedVariables false
set_option linter.unusedSimpArgs false
theorem wf_u8 {n : Int} (h : (Lit.int .u8 n).wf = true) : 0 ≤ n ∧ n < 256 := by
 simp [Lit.wf] at h
 have h1 : IntKind.u8.min = 0 := by decide
 have h2 : IntKind.u8.max = 255 := by decide
 omega
end Go.Proofs.Ytalimpniimgheaa.Fn
namespace Go.Proofs.Ytalimpniimgheaa.Fn
open Go.RowKit Go.Proofs.YtalimpniimgheaaW.PrintWords Go.Proofs.YtalimpniimgheaaW.PrintLast Go.Proofs.YtalimpniimgheaaW.PrintMore
attribute [local go_sem] max2_int min2_int max_two min_two max_three min_three max_four min_four
set_option linter.unusedVariables false
set_option linter.unusedSimpArgs false
theorem eqA64 (d : Nat) (w : World) (x0 y0 : Int) (x1 y1 : Int) (x2 y2 : Int) (x3 y3 : Int) :
  (Op.equalIn (d + 2) 64 (.agg #[.int .i64 x0, .int .i64 x1, .int .i64 x2, .int .i64 x3]) (.agg #[.int .i64 y0, .int .i64 y1, .int .i64 y2, .int .i64 y3])).run Try.prog w = .ok (x0 == y0 && (x1 == y1 && (x2 == y2 && (x3 == y3)))) w := by
 refine eqA_of Try.underlying64 (by kernel_rfl) ?_
 refine eqf_cons (by rfl) (by go_simp; rfl) (by go_simp; rfl) (by go_simp) ?_
 refine eqf_cons (by rfl) (by go_simp; rfl) (by go_simp; rfl) (by go_simp) ?_
 refine eqf_cons (by rfl) (by go_simp; rfl) (by go_simp; rfl) (by go_simp) ?_
 exact eqf_last (by rfl) (by go_simp; rfl) (by go_simp; rfl) (by go_simp)
end Go.Proofs.Ytalimpniimgheaa.Fn
namespace Go.Proofs.Ytalimpniimgheaa.Fn
open Go.RowKit Go.Proofs.YtalimpniimgheaaW.PrintWords Go.Proofs.YtalimpniimgheaaW.PrintLast Go.Proofs.YtalimpniimgheaaW.PrintMore
attribute [local go_sem] max2_int min2_int max_two min_two max_three min_three max_four min_four
set_option linter.unusedVariables false
set_option linter.unusedSimpArgs false
attribute [local go_sem high] eqA64
def parcloseref23_Same.l0 : Nat → List (S64) → List (S64) → Int → Option (Bool)
 | 0, _, _, _ => none
 | k + 1, x0, x1, x5 => if x5 < (x0.length : Int) then (if 0 ≤ x5 then (if x5 < (x1.length : Int) then (if (!(((rd_T64 x0 x5).f0) == ((rd_T64 x1 x5).f0)) || (!(((rd_T64 x0 x5).f1) == ((rd_T64 x1 x5).f1)) || (!(((rd_T64 x0 x5).f2) == ((rd_T64 x1 x5).f2)) || (!(((rd_T64 x0 x5).f3) == ((rd_T64 x1 x5).f3)))))) = true then (some false) else (parcloseref23_Same.l0 k x0 x1 (wrap64 (x5 + 1)))) else (none)) else (none)) else (some true)
def parcloseref23_Same.f (k : Nat) (l0 : List (S64)) (l1 : List (S64)) : Option (Bool) := if (l0.length : Int) = (l1.length : Int) then (parcloseref23_Same.l0 k l0 l1 0) else (some false)
set_option maxHeartbeats 8000000 in
set_option maxRecDepth 100000 in
theorem parcloseref23_Same.calls (k : Nat) (A0 : Option Addr) (c0 : Nat) (l0 : List (S64)) (A1 : Option Addr) (c1 : Nat) (l1 : List (S64)) (r : Bool) (w : World) (hr0 : Kd.C k64 w A0 l0.length l0) (hc0 : l0.length ≤ c0) (hr1 : Kd.C k64 w A1 l1.length l1) (hc1 : l1.length ≤ c1) (h : parcloseref23_Same.f k l0 l1 = some r) :
  Calls Try.prog 22 #[.slice A0 l0.length c0, .slice A1 l1.length c1] w fun e w' => e = .returned (.bool r) ∧ Drawn0 w w' := by
 have hu64 := Try.underlying64
 have HR0 := asd hr0
 have HC0 := asd hc0
 clear hr0 hc0
 have HR1 := asd hr1
 have HC1 := asd hc1
 clear hr1 hc1
 have H : (if (l0.length : Int) = (l1.length : Int) then (parcloseref23_Same.l0 k l0 l1 0) else (some false)) = some r := h
 clear h
 by_cases c3 : (l0.length : Int) = (l1.length : Int)
 ·rw [if_pos c3] at H
  have c3b0 : ((l0.length : Int) == (l1.length : Int)) = true := beq_iff_eq.mpr c3
  have c3b1 : ((l0.length : Int) != (l1.length : Int)) = false := bne_eq_false_iff_eq.mpr c3
  have c3b2 : (l0.length == l1.length) = true := by first | simpa using c3 | (simp at c3 ⊢; omega)
  clear c3
  have H' := asd H
  clear H
  go_enter Try.func22, Try.ntmps22
  go_wp2
  repeat (go_quiet (fail); try go_wp2)
  go_loopg [5] k (fun kq v5 w' => ∃ (x5_1 : Int), v5 = .int .i64 x5_1 ∧ Aside0 (parcloseref23_Same.l0 kq l0 l1 x5_1 = some r) ∧ Aside0 (kq ≤ k) ∧ Drawn0 w w')
  case atStart => exact ⟨(0), (by first | rfl | (simp; done) | (simp [*]; done)), H', ⟨Nat.le_refl _⟩, by repeat (first | exact Drawn0.refl _ | apply Drawn0.step)⟩
  case round =>
   clear H'
   try clear c1
   try clear c2
   try clear p2
   try clear c3
   try clear c3b0
   try clear c3b1
   try clear c3b2
   obtain ⟨x5_1, rfl, HA, HK1, ⟨m1, rfl⟩⟩ := hrel
   cases gk with
   | zero => exact absurd HA.out (by simp [parcloseref23_Same.l0])
   | succ k1 =>
    have H := HA.out
    clear HA
    simp only [parcloseref23_Same.l0] at H
    by_cases c4 : x5_1 < (l0.length : Int)
    ·rw [if_pos c4] at H
     have c4b0 : decide (x5_1 < (l0.length : Int)) = true := decide_eq_true c4
     clear c4
     by_cases c5 : 0 ≤ x5_1
     ·rw [if_pos c5] at H
      have c5b0 : decide (0 ≤ x5_1) = true := decide_eq_true c5
      clear c5
      by_cases c6 : x5_1 < (l1.length : Int)
      ·rw [if_pos c6] at H
       have c6b0 : decide (x5_1 < (l1.length : Int)) = true := decide_eq_true c6
       clear c6
       by_cases c7 : (!(((rd_T64 l0 x5_1).f0) == ((rd_T64 l1 x5_1).f0)) || (!(((rd_T64 l0 x5_1).f1) == ((rd_T64 l1 x5_1).f1)) || (!(((rd_T64 l0 x5_1).f2) == ((rd_T64 l1 x5_1).f2)) || (!(((rd_T64 l0 x5_1).f3) == ((rd_T64 l1 x5_1).f3)))))) = true
       ·rw [if_pos c7] at H
        have c7b0 : (!(((rd_T64 l0 x5_1).f0) == ((rd_T64 l1 x5_1).f0)) || (!(((rd_T64 l0 x5_1).f1) == ((rd_T64 l1 x5_1).f1)) || (!(((rd_T64 l0 x5_1).f2) == ((rd_T64 l1 x5_1).f2)) || (!(((rd_T64 l0 x5_1).f3) == ((rd_T64 l1 x5_1).f3)))))) = true := c7
        clear c7
        obtain rfl := Option.some.inj H
        have p116 : 0 ≤ (x5_1 : Int) := of_decide_eq_true (by assumption)
        have q116 : x5_1 < (l0.length : Int) := of_decide_eq_true (by assumption)
        obtain ⟨ad116, e116, hx116_0, hx116_1, hx116_2, hx116_3⟩ := at_T64 HR0.out x5_1 p116 q116
        cases e116
        replace p116 := eq_true p116
        replace q116 := eq_true q116
        have p117 : 0 ≤ (x5_1 : Int) := of_decide_eq_true (by assumption)
        have q117 : x5_1 < (l1.length : Int) := of_decide_eq_true (by assumption)
        obtain ⟨ad117, e117, hx117_0, hx117_1, hx117_2, hx117_3⟩ := at_T64 HR1.out x5_1 p117 q117
        cases e117
        replace p117 := eq_true p117
        replace q117 := eq_true q117
        go_wp2
        repeat (go_quiet (fail); try go_wp2)
        go_ret
        exact ⟨by first | rfl | (simp; done) | (simp [*]; done), by repeat (first | exact Drawn0.refl _ | apply Drawn0.step)⟩
       ·rw [if_neg c7] at H
        have c7b0 : (!(((rd_T64 l0 x5_1).f0) == ((rd_T64 l1 x5_1).f0)) || (!(((rd_T64 l0 x5_1).f1) == ((rd_T64 l1 x5_1).f1)) || (!(((rd_T64 l0 x5_1).f2) == ((rd_T64 l1 x5_1).f2)) || (!(((rd_T64 l0 x5_1).f3) == ((rd_T64 l1 x5_1).f3)))))) = false := by simpa using c7
        clear c7
        have H' := asd H
        clear H
        have p116 : 0 ≤ (x5_1 : Int) := of_decide_eq_true (by assumption)
        have q116 : x5_1 < (l0.length : Int) := of_decide_eq_true (by assumption)
        obtain ⟨ad116, e116, hx116_0, hx116_1, hx116_2, hx116_3⟩ := at_T64 HR0.out x5_1 p116 q116
        cases e116
        replace p116 := eq_true p116
        replace q116 := eq_true q116
        have p117 : 0 ≤ (x5_1 : Int) := of_decide_eq_true (by assumption)
        have q117 : x5_1 < (l1.length : Int) := of_decide_eq_true (by assumption)
        obtain ⟨ad117, e117, hx117_0, hx117_1, hx117_2, hx117_3⟩ := at_T64 HR1.out x5_1 p117 q117
        cases e117
        replace p117 := eq_true p117
        replace q117 := eq_true q117
        go_wp2
        repeat (go_quiet (fail); try go_wp2)
        go_roundg k1
        case measure => have := HK1.out; omega
        case rel => exact ⟨(wrap64 (x5_1 + 1)), (by first | rfl | (simp; done) | (simp [*]; done)), H', ⟨by have := HK1.out; omega⟩, by repeat (first | exact Drawn0.refl _ | apply Drawn0.step)⟩
      ·rw [if_neg c6] at H
       exact absurd H (by simp)
     ·rw [if_neg c5] at H
      exact absurd H (by simp)
    ·rw [if_neg c4] at H
     have c4b0 : decide (x5_1 < (l0.length : Int)) = false := decide_eq_false c4
     clear c4
     obtain rfl := Option.some.inj H
     go_wp2
     repeat (go_quiet (fail); try go_wp2)
     go_ret
     exact ⟨by first | rfl | (simp; done) | (simp [*]; done), by repeat (first | exact Drawn0.refl _ | apply Drawn0.step)⟩
 ·rw [if_neg c3] at H
  have c3b0 : ((l0.length : Int) == (l1.length : Int)) = false := beq_eq_false_iff_ne.mpr c3
  have c3b1 : ((l0.length : Int) != (l1.length : Int)) = true := bne_iff_ne.mpr c3
  have c3b2 : (l0.length == l1.length) = false := by first | simpa using c3 | (simp at c3 ⊢; omega)
  obtain rfl := Option.some.inj H
  go_enter Try.func22, Try.ntmps22
  go_wp2
  repeat (go_quiet (fail); try go_wp2)
  go_ret
  exact ⟨by first | rfl | (simp; done) | (simp [*]; done), by repeat (first | exact Drawn0.refl _ | apply Drawn0.step)⟩
end Go.Proofs.Ytalimpniimgheaa.Fn
namespace Go.Proofs.Ytalimpniimgheaa.Fn
open Go.RowKit Go.Proofs.YtalimpniimgheaaW.PrintWords Go.Proofs.YtalimpniimgheaaW.PrintLast Go.Proofs.YtalimpniimgheaaW.PrintMore
attribute [local go_sem] max2_int min2_int max_two min_two max_three min_three max_four min_four
set_option linter.unusedVariables false
set_option linter.unusedSimpArgs false
def parcloselaw23_Refs.l0 : Nat → List (S65) → List (S64) → Int → Option ((List (S64)))
 | 0, _, _, _ => none
 | k + 1, x0, x3, x4 => if x4 < (x0.length : Int) then (if 0 ≤ x4 then (if x3.length < 4398046511104 then (parcloselaw23_Refs.l0 k x0 (x3 ++ [(⟨(rd_T65 x0 x4).f0, (rd_T65 x0 x4).f1, (rd_T65 x0 x4).f2, (rd_T65 x0 x4).f3⟩ : S64)]) (wrap64 (x4 + 1))) else (none)) else (none)) else (some x3)
def parcloselaw23_Refs.f (k : Nat) (l0 : List (S65)) : Option ((List (S64))) := parcloselaw23_Refs.l0 k l0 ([] : List (S64)) 0
set_option maxHeartbeats 8000000 in
set_option maxRecDepth 100000 in
theorem parcloselaw23_Refs.calls (k : Nat) (A0 : Option Addr) (c0 : Nat) (l0 : List (S65)) (r : List (S64)) (w : World) (hr0 : Kd.C k65 w A0 l0.length l0) (hc0 : l0.length ≤ c0) (h : parcloselaw23_Refs.f k l0 = some r) :
  Calls Try.prog 23 #[.slice A0 l0.length c0] w fun e w' => ∃ v0_ : Value, e = .returned (v0_) ∧ Kd.R k64 64 w' w.heap.size (fun _ => True) v0_ r ∧ Below w.heap.size w w' := by
 have hu65 := Try.underlying65
 have HR0 := asd hr0
 have HC0 := asd hc0
 clear hr0 hc0
 have HB := asd (Below.refl w.heap.size w)
 have H : (parcloselaw23_Refs.l0 k l0 ([] : List (S64)) 0) = some r := h
 clear h
 have H' := asd H
 clear H
 go_enter Try.func23, Try.ntmps23
 go_wp2
 go_loopg [3, 4] k (fun kq v3 v4 w' => ∃ (x3_1 : List (S64)) (x4_1 : Int), v4 = .int .i64 x4_1 ∧ Aside0 (parcloselaw23_Refs.l0 kq l0 x3_1 x4_1 = some r) ∧ Aside0 (kq ≤ k) ∧ Aside0 (Kd.R k64 64 w' w.heap.size (fun _ => True) v3 x3_1) ∧ Aside0 (Below w.heap.size w w'))
 case atStart => exact ⟨(([] : List (S64))), (0), (by first | rfl | (simp; done) | (simp [*]; done)), H', ⟨Nat.le_refl _⟩, ⟨by first | exact Kd.R_nil _ _ _ _ _ | exact Kd.N_nil _ _ _ _ _ | exact Kd.V_nil _ _ _ _ _ | exact Kd.Q_nil _ _ _ _ _ | exact Kd.S_nil _ _ _ _ _⟩, ⟨by repeat (first | (with_reducible first | exact HB.out | apply wa | apply wn | apply wd) | exact HB.out)⟩⟩
 case round =>
  clear H'
  obtain ⟨x3_1, x4_1, rfl, HA, HK1, HO_3, HB⟩ := hrel
  cases gk with
  | zero => exact absurd HA.out (by simp [parcloselaw23_Refs.l0])
  | succ k1 =>
   have H := HA.out
   clear HA
   simp only [parcloselaw23_Refs.l0] at H
   by_cases c2 : x4_1 < (l0.length : Int)
   ·rw [if_pos c2] at H
    have c2b0 : decide (x4_1 < (l0.length : Int)) = true := decide_eq_true c2
    clear c2
    by_cases c3 : 0 ≤ x4_1
    ·rw [if_pos c3] at H
     have c3b0 : decide (0 ≤ x4_1) = true := decide_eq_true c3
     clear c3
     by_cases c4 : x3_1.length < 4398046511104
     ·rw [if_pos c4] at H
      have LMc4 := asd c4
      clear c4
      obtain ⟨y119, hy119⟩ : ∃ y_ : List (S64), y_ = (x3_1 ++ [(⟨(rd_T65 l0 x4_1).f0, (rd_T65 l0 x4_1).f1, (rd_T65 l0 x4_1).f2, (rd_T65 l0 x4_1).f3⟩ : S64)]) := ⟨_, rfl⟩
      replace H : (parcloselaw23_Refs.l0 k1 l0 y119 (wrap64 (x4_1 + 1))) = some r := by first | (rw [hy119]; with_reducible exact H) | (have H2_ := (Option.bind_some _ _).symm.trans H; rw [hy119]; with_reducible exact H2_) | (have H2_ := (Option.bind_some _ _).symm.trans H; with_reducible exact H2_) | with_reducible exact H | (rw [hy119]; exact H) | exact H
      have Ny119 := asd hy119
      clear hy119
      have H' := asd H
      clear H
      have p118 : 0 ≤ (x4_1 : Int) := of_decide_eq_true (by assumption)
      have q118 : x4_1 < (l0.length : Int) := of_decide_eq_true (by assumption)
      obtain ⟨ad118, e118, hx118_0, hx118_1, hx118_2, hx118_3⟩ := at_T65 HR0.out x4_1 p118 q118
      cases e118
      replace hx118_0 := (HB.out.cell (World.block_lt_of_cell? w _ hx118_0)).trans hx118_0
      replace hx118_1 := (HB.out.cell (World.block_lt_of_cell? w _ hx118_1)).trans hx118_1
      replace hx118_2 := (HB.out.cell (World.block_lt_of_cell? w _ hx118_2)).trans hx118_2
      replace hx118_3 := (HB.out.cell (World.block_lt_of_cell? w _ hx118_3)).trans hx118_3
      replace p118 := eq_true p118
      replace q118 := eq_true q118
      go_wp2_with (first | ((with_reducible refine gate_builtin (b := .append) (xs := #[.tmp 11, .tmp 16]) rfl ?_); at_builtin; refine Kd.R_append k64 (w0 := w) w.heap.size rfl (.tmp 11) (.tmp 16) 29 64 (.agg #[(.int .i64 0), (.int .i64 0), (.int .i64 0), (.int .i64 0)]) 32 rfl Try.underlying29 info64 rfl (by decide) (by omega) u3 x3_1 (⟨(rd_T65 l0 x4_1).f0, (rd_T65 l0 x4_1).f1, (rd_T65 l0 x4_1).f2, (rd_T65 l0 x4_1).f3⟩ : S64) [.int .i64 ((rd_T65 l0 x4_1).f0), .int .i64 ((rd_T65 l0 x4_1).f1), .int .i64 ((rd_T65 l0 x4_1).f2), .int .i64 ((rd_T65 l0 x4_1).f3)] (fun _ => True) (fun _ => False) rfl rfl ?aP (fun _ hk => hk.elim) ?aF ?aO ?aB ?aS ?aL ?_; (case aP => exact k64_mkM _ _ _ (⟨(rd_T65 l0 x4_1).f0, (rd_T65 l0 x4_1).f1, (rd_T65 l0 x4_1).f2, (rd_T65 l0 x4_1).f3⟩ : S64)); (case aB => exact (by repeat (first | (with_reducible first | exact HB.out | apply wa | apply wn | apply wd) | exact HB.out))); (case aF => exact (fun _ _ => trivial)); (case aO => exact (by (with_reducible repeat (first | apply Kd.R_alloc | apply Kd.R_drewN | apply Kd.R_drew)); exact HO_3.out)); (case aS => exact (below_size (by repeat (first | (with_reducible first | exact HB.out | apply wa | apply wn | apply wd) | exact HB.out)))); (case aL => have := LMc4.out; omega); intro v120 w5 ho hb hg hat; rw [← Ny119.out] at ho; have n0_ := asd (hb); have n1_ := asd (ho); clear HB; clear HO_3; have HB := n0_; have HO121 := n1_; clear n0_ n1_; clear ho hb hg hat))
      go_roundg k1
      case measure => have := HK1.out; omega
      case rel => exact ⟨(y119), (wrap64 (x4_1 + 1)), (by first | rfl | (simp; done) | (simp [*]; done)), H', ⟨by have := HK1.out; omega⟩, ⟨by (with_reducible repeat (first | apply Kd.R_alloc | apply Kd.R_drewN | apply Kd.R_drew)); exact HO121.out⟩, ⟨by repeat (first | (with_reducible first | exact HB.out | apply wa | apply wn | apply wd) | exact HB.out)⟩⟩
     ·rw [if_neg c4] at H
      exact absurd H (by simp)
    ·rw [if_neg c3] at H
     exact absurd H (by simp)
   ·rw [if_neg c2] at H
    have c2b0 : decide (x4_1 < (l0.length : Int)) = false := decide_eq_false c2
    clear c2
    obtain rfl := Option.some.inj H
    go_wp2
    go_ret
    exact ⟨_, by first | rfl | (simp [*] <;> rfl), by (with_reducible repeat (first | apply Kd.R_alloc | apply Kd.R_drewN | apply Kd.R_drew)); exact HO_3.out, by repeat (first | (with_reducible first | exact HB.out | apply wa | apply wn | apply wd) | exact HB.out)⟩
end Go.Proofs.Ytalimpniimgheaa.Fn
namespace Go.Proofs.Ytalimpniimgheaa.Fn
open Go.RowKit Go.Proofs.YtalimpniimgheaaW.PrintWords Go.Proofs.YtalimpniimgheaaW.PrintLast Go.Proofs.YtalimpniimgheaaW.PrintMore
set_option linter.unusedVariables false
set_option linter.unusedSimpArgs false
instance decS64p : DecidableEq S64 := fun a b => decidable_of_iff (a.f0 = b.f0 ∧ a.f1 = b.f1 ∧ a.f2 = b.f2 ∧ a.f3 = b.f3) (by cases a; cases b; simp)
def toRP (x : S65) : S64 := ⟨x.f0, x.f1, x.f2, x.f3⟩
theorem refsP_ev (l : List S65) (hl : l.length ≤ 65536) : ∀ (n x : Nat) (acc : List S64), x + n = l.length → acc.length ≤ x → Ev (fun k => parcloselaw23_Refs.l0 k l acc (x : Int)) (acc ++ (l.drop x).map toRP) := by
 intro n
 induction n with
 | zero =>
  intro x acc hx ha
  refine Ev.step (f := fun _ => some acc) (fun k => by simp only [parcloselaw23_Refs.l0]; rw [if_neg (by omega)]) ?_
  rw [List.drop_of_length_le (by omega)]
  simp only [List.map_nil, List.append_nil]
  exact Ev.now _
 | succ n ih =>
  intro x acc hx ha
  refine Ev.step (f := fun k => parcloselaw23_Refs.l0 k l (acc ++ [toRP (l.getD x z65)]) ((x + 1 : Nat) : Int)) (fun k => by
   simp only [parcloselaw23_Refs.l0]
   rw [if_pos (by omega), if_pos (by omega), if_pos (by omega), show wrap64 ((x : Int) + 1) = ((x + 1 : Nat) : Int) by unfold wrap64; omega]
   rfl) ?_
  have h := ih (x + 1) (acc ++ [toRP (l.getD x z65)]) (by omega) (by simp; omega)
  rw [List.append_assoc] at h
  have e : l.drop x = l.getD x z65 :: l.drop (x + 1) := by rw [getD_lt l z65 (by omega)]; exact List.drop_eq_getElem_cons (by omega)
  rw [e, List.map_cons]
  exact h
theorem refsP_f (l : List S65) (hl : l.length ≤ 65536) : ∃ k, parcloselaw23_Refs.f k l = some (l.map toRP) := by
 have h := refsP_ev l hl l.length 0 [] (by omega) (by simp)
 simp only [List.nil_append, List.drop_zero] at h
 exact h.rounds
theorem sameP_ev (a b : List S64) (hl : a.length = b.length) (ha : a.length ≤ 100000) : ∀ (n x : Nat), x + n = a.length → Ev (fun k => parcloseref23_Same.l0 k a b (x : Int)) (decide (a.drop x = b.drop x)) := by
 intro n
 induction n with
 | zero =>
  intro x hx
  rw [List.drop_of_length_le (by omega), List.drop_of_length_le (by omega)]
  refine Ev.step (f := fun _ => some true) (fun k => by simp only [parcloseref23_Same.l0]; rw [if_neg (by omega)]) ?_
  exact Ev.now _
 | succ n ih =>
  intro x hx
  have ea : a.drop x = a.getD x z64 :: a.drop (x + 1) := by rw [getD_lt a z64 (by omega)]; exact List.drop_eq_getElem_cons (by omega)
  have eb : b.drop x = b.getD x z64 :: b.drop (x + 1) := by rw [getD_lt b z64 (by omega)]; exact List.drop_eq_getElem_cons (by omega)
  have ra : rd_T64 a (x : Int) = a.getD x z64 := by unfold rd_T64; rw [Int.toNat_natCast]
  have rb : rd_T64 b (x : Int) = b.getD x z64 := by unfold rd_T64; rw [Int.toNat_natCast]
  by_cases he : a.getD x z64 = b.getD x z64
  ·have hd : decide (a.drop x = b.drop x) = decide (a.drop (x + 1) = b.drop (x + 1)) := by rw [ea, eb, he]; simp
   rw [hd]
   refine Ev.step (f := fun k => parcloseref23_Same.l0 k a b ((x + 1 : Nat) : Int)) (fun k => by
    simp only [parcloseref23_Same.l0]
    rw [if_pos (by omega), if_pos (by omega), if_pos (by omega), ra, rb, he, if_neg (by simp), show wrap64 ((x : Int) + 1) = ((x + 1 : Nat) : Int) by unfold wrap64; omega]) (ih (x + 1) (by omega))
  ·have hd : decide (a.drop x = b.drop x) = false := decide_eq_false (by rw [ea, eb]; intro h; exact he (List.cons.inj h).1)
   rw [hd]
   refine Ev.step (f := fun _ => some false) (fun k => by
    simp only [parcloseref23_Same.l0]
    rw [if_pos (by omega), if_pos (by omega), if_pos (by omega), ra, rb, if_pos]
    have h4 : ¬ ((a.getD x z64).f0 = (b.getD x z64).f0 ∧ (a.getD x z64).f1 = (b.getD x z64).f1 ∧ (a.getD x z64).f2 = (b.getD x z64).f2 ∧ (a.getD x z64).f3 = (b.getD x z64).f3) := by
     rintro ⟨h0, h1, h2, h3⟩
     apply he
     cases h5 : a.getD x z64
     cases h6 : b.getD x z64
     simp_all
    simp only [Bool.or_eq_true, Bool.not_eq_true', beq_eq_false_iff_ne, ne_eq]
    omega) (Ev.now _)
theorem sameP_f (a b : List S64) (ha : a.length ≤ 100000) : ∃ k, parcloseref23_Same.f k a b = some (decide (a = b)) := by
 unfold parcloseref23_Same.f
 by_cases h : a.length = b.length
 ·have h2 := sameP_ev a b h ha a.length 0 (by omega)
  simp only [List.drop_zero] at h2
  obtain ⟨k, hk⟩ := h2.rounds
  exact ⟨k, by rw [if_pos (by omega)]; exact hk⟩
 ·exact ⟨0, by rw [if_neg (by omega), decide_eq_false (fun e => h (by rw [e]))]⟩
theorem prefs_calls (A : Option Addr) (c : Nat) (b : List S64) (w : World) (hr : Kd.C k65 w A b.length (b.map eP)) (hc : b.length ≤ c) (hl : b.length ≤ 65536) :
  Calls Try.prog 23 #[.slice A b.length c] w fun e w' => ∃ A' c', e = .returned (.slice A' b.length c') ∧ b.length ≤ c' ∧ Kd.C k64 w' A' b.length b ∧ Below w.heap.size w w' := by
 obtain ⟨k, hk⟩ := refsP_f (b.map eP) (by rw [List.length_map]; exact hl)
 have e2 : (b.map eP).map toRP = b := by rw [List.map_map]; exact List.map_id'' (fun x => rfl) b
 rw [e2] at hk
 have hL : (b.map eP).length = b.length := List.length_map _
 have h := parcloselaw23_Refs.calls k A c (b.map eP) b w (by rw [hL]; exact hr) (by rw [hL]; exact hc) hk
 rw [hL] at h
 refine h.mono ?_
 rintro e w1 ⟨v, rfl, hv, hb⟩
 obtain ⟨A', c', rfl, hc', hC'⟩ := Kd.R_reads hv
 exact ⟨A', c', rfl, hc', hC', hb⟩
theorem psame_calls (A0 : Option Addr) (c0 : Nat) (A1 : Option Addr) (c1 : Nat) (b : List S64) (w : World) (hr0 : Kd.C k64 w A0 b.length b) (hc0 : b.length ≤ c0) (hr1 : Kd.C k64 w A1 b.length b) (hc1 : b.length ≤ c1) (hl : b.length ≤ 65536) :
  Calls Try.prog 22 #[.slice A0 b.length c0, .slice A1 b.length c1] w fun e w' => e = .returned (.bool true) ∧ Below w.heap.size w w' := by
 obtain ⟨k, hk⟩ := sameP_f b b (by omega)
 rw [decide_eq_true rfl] at hk
 refine (parcloseref23_Same.calls k A0 c0 b A1 c1 b true w hr0 hc0 hr1 hc1 hk).mono ?_
 rintro e w1 ⟨rfl, hd⟩
 exact ⟨rfl, hd.below⟩
set_option maxHeartbeats 4000000 in
set_option maxRecDepth 100000 in
theorem pback_dark (a0 : Option Addr) (c0 : Nat) (x0 : List S64) (a1 : Option Addr) (c1 : Nat) (x1 : List Int) (w : World) (hn : ¬ (x0.length ≤ 200 ∧ x1.length ≤ 4000)) : Calls Try.prog 11 #[.slice a0 x0.length c0, .slice a1 x1.length c1] w fun e w' => e = .returned (.bool true) ∧ Below w.heap.size w w' := by
 by_cases h : x0.length ≤ 200
 ·have d0 : decide ((x0.length : Int) > 200) = false := decide_eq_false (by omega)
  have d1 : decide (200 < (x0.length : Int)) = false := d0
  have e0 : decide ((x1.length : Int) > 4000) = true := decide_eq_true (by have : ¬ x1.length ≤ 4000 := fun q => hn ⟨h, q⟩; omega)
  have e1 : decide (4000 < (x1.length : Int)) = true := e0
  clear hn h
  go_enter Try.func11, Try.ntmps11
  go_wp2_with (first | (go_at_call 52; refine (pknows_calls _).mono ?_; rintro e wk ⟨rfl, hb⟩; have HBK := asd hb; clear hb))
  go_ret
  exact ⟨rfl, HBK.out⟩
 ·have d0 : decide ((x0.length : Int) > 200) = true := decide_eq_true (by omega)
  have d1 : decide (200 < (x0.length : Int)) = true := d0
  clear hn h
  go_enter Try.func11, Try.ntmps11
  go_wp2_with (first | (go_at_call 52; refine (pknows_calls _).mono ?_; rintro e wk ⟨rfl, hb⟩; have HBK := asd hb; clear hb))
  go_ret
  exact ⟨rfl, HBK.out⟩
set_option maxHeartbeats 8000000 in
set_option maxRecDepth 100000 in
theorem pback_light (a0 : Option Addr) (c0 : Nat) (x0 : List S64) (a1 : Option Addr) (c1 : Nat) (x1 : List Int) (w : World) (hr0 : Kd.C k64 w a0 x0.length x0) (hc0 : x0.length ≤ c0) (hr1 : Kd.C (Kd.int .u8) w a1 x1.length x1) (hc1 : x1.length ≤ c1) (hb : Bytes x1) (h0 : x0.length ≤ 200) (h1 : x1.length ≤ 4000) : Calls Try.prog 11 #[.slice a0 x0.length c0, .slice a1 x1.length c1] w fun e w' => e = .returned (.bool true) ∧ Below w.heap.size w w' := by
 have d0 : decide ((x0.length : Int) > 200) = false := decide_eq_false (by omega)
 have d1 : decide (200 < (x0.length : Int)) = false := d0
 have e0 : decide ((x1.length : Int) > 4000) = false := decide_eq_false (by omega)
 have e1 : decide (4000 < (x1.length : Int)) = false := e0
 obtain ⟨k1, hk1⟩ := powns_ev x0 (by omega)
 have hml : (x0.map eP).length = x0.length := List.length_map _
 have OW := asd (fun w1 (h : Kd.C k64 w1 a0 x0.length x0) => parcloselaw36_owns.calls k1 a0 c0 x0 _ w1 h hc0 hk1)
 have PP := asd (fun A c w1 (h : Kd.C k65 w1 A x0.length (x0.map eP)) (hc : x0.length ≤ c) => pPut_calls A c (x0.map eP) w1 (by rw [hml]; exact h) (by rw [hml]; exact hc) (by rw [hml]; omega))
 simp only [List.length_map] at PP
 have GB := asd (fun w1 (h : Kd.C (Kd.int .u8) w1 a1 x1.length x1) => pGet_calls a1 c1 x1 w1 h hc1 hb (by omega))
 have PG : Aside0 ((getP x1).2 = 0 → putP (getP x1).1 = (x1, 0) ∧ (getP x1).1.length ≤ x1.length ∧ (getP x1).1.length ≤ 65536) := ⟨fun q => put_get x1 hb _ (by rw [← q])⟩
 have GN := asd (getP_nil x1)
 generalize getP x1 = G at GB PG GN
 obtain ⟨gy, gf⟩ := G
 have H0 := asd hr0
 have H1 := asd hr1
 have L0 := asd (And.intro h0 hc0)
 have L1 := asd h1
 by_cases hok : ∀ x, x ∈ x0.map eP → OkP x
 ·have hP : putP (x0.map eP) = (allP (x0.map eP) ++ numB 2 (sumP (allP (x0.map eP))), 0) := by unfold putP; rw [if_pos hok, if_pos (by rw [hml]; omega)]
  rw [hP] at PP
  have hG := get_put (x0.map eP) hok (by rw [hml]; omega)
  have hby : Bytes (allP (x0.map eP) ++ numB 2 (sumP (allP (x0.map eP)))) := fun c hc => (List.mem_append.1 hc).elim (fun h => allP_bytes _ c h) (fun h => numB_bytes _ _ c h)
  have hbl : (allP (x0.map eP) ++ numB 2 (sumP (allP (x0.map eP)))).length ≤ 100000 := by
   have := allP_len (x0.map eP)
   rw [hml] at this
   rw [List.length_append, numB_len]; omega
  generalize allP (x0.map eP) ++ numB 2 (sumP (allP (x0.map eP))) = pb at PP hG hby hbl
  have GA : Aside0 (∀ A c wz, Kd.C (Kd.int .u8) wz A pb.length pb → pb.length ≤ c → Calls Try.prog 61 #[.slice A pb.length c] wz fun e w' => ∃ A' c', e = .returned (.tuple #[.slice A' x0.length c', .int .i64 0]) ∧ x0.length ≤ c' ∧ Kd.C k65 w' A' x0.length (x0.map eP) ∧ Below wz.heap.size wz w') := ⟨fun A c wz h hc => by
   have q := pGet_calls A c pb wz h hc hby hbl
   rw [hG] at q
   unfold GetAns at q
   simp only [List.length_map] at q
   exact q⟩
  clear hr0 hc0 hr1 hc1 hb h0 h1 hk1 hml hok hP hG hby hbl
  go_enter Try.func11, Try.ntmps11
  go_wp2_with (first | (go_at_call 52; refine (pknows_calls _).mono ?_; rintro e wk ⟨rfl, hb⟩; have HBK := asd hb; clear hb))
  refine (OW.out wk (Kd.C_below H0.out HBK.out)).mono ?_
  rintro e w1 ⟨v, rfl, hv, hb⟩
  obtain ⟨A1, c2, rfl, hc2, hC2⟩ := Kd.R_reads hv
  rw [List.length_map] at hc2 hC2
  simp only [List.length_map]
  have C1 := asd (And.intro hc2 hC2)
  have HB1 := asd (below_step HBK.out hb)
  clear hv hb hc2 hC2 OW HBK
  go_wp2_with fail
  refine (PP.out A1 c2 w1 C1.out.2 C1.out.1).mono ?_
  rintro e w2 ⟨A2, c3, rfl, hc3, hC3, hb⟩
  have C2 := asd (And.intro hc3 hC3)
  have HB2 := asd (below_step HB1.out hb)
  clear hc3 hC3 hb PP C1
  go_wp2_with fail
  refine (parcloselaw36_num.calls _ _ _ rfl).mono ?_
  rintro e w3 ⟨rfl, hd⟩
  have HB3 := asd (below_step HB2.out hd.below)
  have C3 := asd (Kd.C_below C2.out.2 hd.below)
  clear hd
  go_wp2_with fail
  refine (GA.out A2 c3 w3 C3.out C2.out.1).mono ?_
  rintro e w4 ⟨A4, c4, rfl, hc4, hC4, hb⟩
  have C4 := asd (And.intro hc4 hC4)
  have HB4 := asd (below_step HB3.out hb)
  clear hc4 hC4 hb GA C3 C2
  go_wp2_with fail
  refine (parcloselaw36_num.calls _ _ _ rfl).mono ?_
  rintro e w5 ⟨rfl, hd⟩
  have HB5 := asd (below_step HB4.out hd.below)
  have C5 := asd (Kd.C_below C4.out.2 hd.below)
  clear hd
  go_wp2_with fail
  refine (prefs_calls A4 c4 x0 w5 C5.out C4.out.1 (by have := L0.out; omega)).mono ?_
  rintro e w6 ⟨A6, c6, rfl, hc6, hC6, hb⟩
  have C6 := asd (And.intro hc6 hC6)
  have HB6 := asd (below_step HB5.out hb)
  clear hc6 hC6 hb C5 C4
  go_wp2_with fail
  refine (psame_calls A6 c6 a0 c0 x0 w6 C6.out.2 C6.out.1 (Kd.C_below H0.out HB6.out) L0.out.2 (by have := L0.out; omega)).mono ?_
  rintro e w7 ⟨rfl, hb⟩
  have HB7 := asd (below_step HB6.out hb)
  clear hb C6
  go_wp2_with fail
  refine (GB.out w7 (Kd.C_below H1.out HB7.out)).mono ?_
  rintro e w8 ⟨A8, c8, rfl, hc8, hC8, hb⟩
  have C8 := asd (And.intro hc8 hC8)
  have HB8 := asd (below_step HB7.out hb)
  clear hc8 hC8 hb GB
  by_cases hf : gf = 0
  ·obtain rfl := hf
   obtain ⟨hp, hl1, hl2⟩ := PG.out rfl
   have PY : Aside0 (∀ wz, Kd.C k65 wz A8 gy.length gy → Calls Try.prog 53 #[.slice A8 gy.length c8] wz fun e w' => ∃ A' c', e = .returned (.tuple #[.slice A' x1.length c', .int .i64 0]) ∧ x1.length ≤ c' ∧ Kd.C (Kd.int .u8) w' A' x1.length x1 ∧ Below wz.heap.size wz w') := ⟨fun wz h => by
    have q := pPut_calls A8 c8 gy wz h C8.out.1 (by have := L1.out; omega)
    rw [hp] at q
    exact q⟩
   clear hp hl1 hl2 PG
   go_wp2_with fail
   refine (parcloselaw36_num.calls _ _ _ rfl).mono ?_
   rintro e w9 ⟨rfl, hd⟩
   have HB9 := asd (below_step HB8.out hd.below)
   have C9 := asd (Kd.C_below C8.out.2 hd.below)
   clear hd
   go_wp2_with fail
   refine (PY.out w9 C9.out).mono ?_
   rintro e w10 ⟨A10, c10, rfl, hc10, hC10, hb⟩
   have C10 := asd (And.intro hc10 hC10)
   have HB10 := asd (below_step HB9.out hb)
   clear hc10 hC10 hb PY C9
   go_wp2_with fail
   refine (parcloselaw36_num.calls _ _ _ rfl).mono ?_
   rintro e w11 ⟨rfl, hd⟩
   have HB11 := asd (below_step HB10.out hd.below)
   have hst1 := Kd.C_string (P := Try.prog) (src := 78) (dst := 9) Try.underlying78 Try.underlying5 Try.underlying9 (n := x1.length) (c := c10) (Kd.C_below C10.out.2 hd.below)
   have hst2 := Kd.C_string (P := Try.prog) (src := 78) (dst := 9) Try.underlying78 Try.underlying5 Try.underlying9 (n := x1.length) (c := c1) (Kd.C_below H1.out HB11.out)
   clear hd
   go_wp2
   go_ret
   exact ⟨by simp, HB11.out⟩
  ·obtain rfl := GN.out hf
   have bn : (gf != 0) = true := by simpa using hf
   clear hf PG GN
   go_wp2_with (first | (go_at_call 56; refine (parcloselaw36_num.calls _ _ _ rfl).mono ?_; rintro e wn ⟨rfl, hd⟩; have HBn := asd (below_step HB8.out hd.below); clear hd))
   go_ret
   exact ⟨by simp, HBn.out⟩
 ·have hP : putP (x0.map eP) = ([], 2) := by unfold putP; rw [if_neg hok]
  rw [hP] at PP
  clear hr0 hc0 hr1 hc1 hb h0 h1 hk1 hml hok hP
  go_enter Try.func11, Try.ntmps11
  go_wp2_with (first | (go_at_call 52; refine (pknows_calls _).mono ?_; rintro e wk ⟨rfl, hb⟩; have HBK := asd hb; clear hb))
  refine (OW.out wk (Kd.C_below H0.out HBK.out)).mono ?_
  rintro e w1 ⟨v, rfl, hv, hb⟩
  obtain ⟨A1, c2, rfl, hc2, hC2⟩ := Kd.R_reads hv
  rw [List.length_map] at hc2 hC2
  simp only [List.length_map]
  have C1 := asd (And.intro hc2 hC2)
  have HB1 := asd (below_step HBK.out hb)
  clear hv hb hc2 hC2 OW HBK
  go_wp2_with fail
  refine (PP.out A1 c2 w1 C1.out.2 C1.out.1).mono ?_
  rintro e w2 ⟨A2, c3, rfl, hc3, hC3, hb⟩
  have HB2 := asd (below_step HB1.out hb)
  clear hc3 hC3 hb PP C1
  go_wp2_with fail
  refine (parcloselaw36_num.calls _ _ _ rfl).mono ?_
  rintro e w3 ⟨rfl, hd⟩
  have HB3 := asd (below_step HB2.out hd.below)
  clear hd
  go_wp2_with fail
  refine (GB.out w3 (Kd.C_below H1.out HB3.out)).mono ?_
  rintro e w8 ⟨A8, c8, rfl, hc8, hC8, hb⟩
  have C8 := asd (And.intro hc8 hC8)
  have HB8 := asd (below_step HB3.out hb)
  clear hc8 hC8 hb GB
  by_cases hf : gf = 0
  ·obtain rfl := hf
   obtain ⟨hp, hl1, hl2⟩ := PG.out rfl
   have PY : Aside0 (∀ wz, Kd.C k65 wz A8 gy.length gy → Calls Try.prog 53 #[.slice A8 gy.length c8] wz fun e w' => ∃ A' c', e = .returned (.tuple #[.slice A' x1.length c', .int .i64 0]) ∧ x1.length ≤ c' ∧ Kd.C (Kd.int .u8) w' A' x1.length x1 ∧ Below wz.heap.size wz w') := ⟨fun wz h => by
    have q := pPut_calls A8 c8 gy wz h C8.out.1 (by have := L1.out; omega)
    rw [hp] at q
    exact q⟩
   clear hp hl1 hl2 PG
   go_wp2_with fail
   refine (parcloselaw36_num.calls _ _ _ rfl).mono ?_
   rintro e w9 ⟨rfl, hd⟩
   have HB9 := asd (below_step HB8.out hd.below)
   have C9 := asd (Kd.C_below C8.out.2 hd.below)
   clear hd
   go_wp2_with fail
   refine (PY.out w9 C9.out).mono ?_
   rintro e w10 ⟨A10, c10, rfl, hc10, hC10, hb⟩
   have C10 := asd (And.intro hc10 hC10)
   have HB10 := asd (below_step HB9.out hb)
   clear hc10 hC10 hb PY C9
   go_wp2_with fail
   refine (parcloselaw36_num.calls _ _ _ rfl).mono ?_
   rintro e w11 ⟨rfl, hd⟩
   have HB11 := asd (below_step HB10.out hd.below)
   have hst1 := Kd.C_string (P := Try.prog) (src := 78) (dst := 9) Try.underlying78 Try.underlying5 Try.underlying9 (n := x1.length) (c := c10) (Kd.C_below C10.out.2 hd.below)
   have hst2 := Kd.C_string (P := Try.prog) (src := 78) (dst := 9) Try.underlying78 Try.underlying5 Try.underlying9 (n := x1.length) (c := c1) (Kd.C_below H1.out HB11.out)
   clear hd
   go_wp2
   go_ret
   exact ⟨by simp, HB11.out⟩
  ·obtain rfl := GN.out hf
   have bn : (gf != 0) = true := by simpa using hf
   clear hf PG GN
   go_wp2_with (first | (go_at_call 56; refine (parcloselaw36_num.calls _ _ _ rfl).mono ?_; rintro e wn ⟨rfl, hd⟩; have HBn := asd (below_step HB8.out hd.below); clear hd))
   go_ret
   exact ⟨by simp, HBn.out⟩
end Go.Proofs.Ytalimpniimgheaa.Fn
