/- Part of the proof of PackRuns: see the last text. (Words laid by the print, as far as they are named here; walks written by a program of this project; plain laws.) -/
import Derived.Test.YtalimpniimgheaaPackRunsZ1
namespace Go.Proofs.Ytalimpniimgheaa.Fn
open Go.RowKit Go.Proofs.YtalimpniimgheaaW.PrintWords Go.Proofs.YtalimpniimgheaaW.PrintLast Go.Proofs.YtalimpniimgheaaW.PrintMore
set_option linter.unusedVariables false
set_option linter.unusedSimpArgs false
def lenTab : ByteArray := (⟨#[0, 1, 2, 2, 3, 3, 3, 3, 4, 4, 4, 4, 4, 4, 4, 4, 5, 5, 5, 5, 5, 5, 5, 5, 5, 5, 5, 5, 5, 5, 5, 5, 6, 6, 6, 6, 6, 6, 6, 6, 6, 6, 6, 6, 6, 6, 6, 6, 6, 6, 6, 6, 6, 6, 6, 6, 6, 6, 6, 6, 6, 6, 6, 6, 7, 7, 7, 7, 7, 7, 7, 7, 7, 7, 7, 7, 7, 7, 7, 7, 7, 7, 7, 7, 7, 7, 7, 7, 7, 7, 7, 7, 7, 7, 7, 7, 7, 7, 7, 7, 7, 7, 7, 7, 7, 7, 7, 7, 7, 7, 7, 7, 7, 7, 7, 7, 7, 7, 7, 7, 7, 7, 7, 7, 7, 7, 7, 7, 8, 8, 8, 8, 8, 8, 8, 8, 8, 8, 8, 8, 8, 8, 8, 8, 8, 8, 8, 8, 8, 8, 8, 8, 8, 8, 8, 8, 8, 8, 8, 8, 8, 8, 8, 8, 8, 8, 8, 8, 8, 8, 8, 8, 8, 8, 8, 8, 8, 8, 8, 8, 8, 8, 8, 8, 8, 8, 8, 8, 8, 8, 8, 8, 8, 8, 8, 8, 8, 8, 8, 8, 8, 8, 8, 8, 8, 8, 8, 8, 8, 8, 8, 8, 8, 8, 8, 8, 8, 8, 8, 8, 8, 8, 8, 8, 8, 8, 8, 8, 8, 8, 8, 8, 8, 8, 8, 8, 8, 8, 8, 8, 8, 8, 8, 8, 8, 8, 8, 8, 8, 8, 8, 8, 8, 8, 8, 8]⟩ : ByteArray)
theorem lenTab_all : ∀ i : Fin 256, (i.val < 2 ^ (bt lenTab (i.val : Int)).toNat) ∧ (1 ≤ i.val → 1 ≤ (bt lenTab (i.val : Int)).toNat ∧ 2 ^ ((bt lenTab (i.val : Int)).toNat - 1) ≤ i.val) ∧ (bt lenTab (i.val : Int)).toNat ≤ 8 := by decide +kernel
def HasLen (n r : Nat) : Prop := n < 2 ^ r ∧ (1 ≤ n → 1 ≤ r ∧ 2 ^ (r - 1) ≤ n)
theorem hasLen_shift {n s r : Nat} (h : HasLen (n / 2 ^ s) r) (hp : 1 ≤ n / 2 ^ s) : HasLen n (s + r) := by
 have h2 := h.2 hp
 have hpos : 0 < 2 ^ s := Nat.pow_pos (by omega)
 constructor
 ·rw [Nat.pow_add]
  have := (Nat.div_lt_iff_lt_mul hpos).1 h.1
  rwa [Nat.mul_comm]
 ·intro _
  refine ⟨by omega, ?_⟩
  rw [show s + r - 1 = s + (r - 1) by omega, Nat.pow_add, Nat.mul_comm]
  exact (Nat.le_div_iff_mul_le hpos).1 h2.2
theorem tab_len (i : Nat) (h : i < 256) : ∃ r : Nat, bt lenTab (i : Int) = (r : Int) ∧ r ≤ 8 ∧ HasLen i r := by
 have h1 := lenTab_all ⟨i, h⟩
 have h2 := bt_range lenTab (i : Int)
 exact ⟨(bt lenTab (i : Int)).toNat, by omega, h1.2.2, h1.1, h1.2.1⟩
theorem j0_ex : ∃ T : ByteArray, (∀ x c : Int, bits_Len64.j0 1 x c = if x ≥ 65536 then (if (x / 65536) ≥ 256 then (if 0 ≤ (((x / 65536) / 256) % 256) then (if (((x / 65536) / 256) % 256) < 256 then (some (wrap64 ((wrap64 ((wrap64 (c + 16)) + 8)) + (wrap64 (bt T (((x / 65536) / 256) % 256)))))) else (none)) else (none)) else (if 0 ≤ ((x / 65536) % 256) then (if ((x / 65536) % 256) < 256 then (some (wrap64 ((wrap64 (c + 16)) + (wrap64 (bt T ((x / 65536) % 256)))))) else (none)) else (none))) else (if x ≥ 256 then (if 0 ≤ ((x / 256) % 256) then (if ((x / 256) % 256) < 256 then (some (wrap64 ((wrap64 (c + 8)) + (wrap64 (bt T ((x / 256) % 256)))))) else (none)) else (none)) else (if 0 ≤ ((x) % 256) then (if ((x) % 256) < 256 then (some (wrap64 (c + (wrap64 (bt T ((x) % 256)))))) else (none)) else (none)))) ∧ ∀ i : Nat, i < 256 → ∃ r : Nat, bt T (i : Int) = (r : Int) ∧ r ≤ 8 ∧ HasLen i r := ⟨lenTab, fun x c => rfl, tab_len⟩
theorem w_a (c r : Nat) (hc : c ≤ 32) (hr : r ≤ 8) : wrap64 (wrap64 (wrap64 ((c : Int) + 16) + 8) + wrap64 (r : Int)) = ((c + (16 + (8 + r)) : Nat) : Int) := by unfold wrap64; omega
theorem w_b (c r : Nat) (hc : c ≤ 32) (hr : r ≤ 8) : wrap64 (wrap64 ((c : Int) + 16) + wrap64 (r : Int)) = ((c + (16 + r) : Nat) : Int) := by unfold wrap64; omega
theorem w_c (c r : Nat) (hc : c ≤ 32) (hr : r ≤ 8) : wrap64 (wrap64 ((c : Int) + 8) + wrap64 (r : Int)) = ((c + (8 + r) : Nat) : Int) := by unfold wrap64; omega
theorem w_d (c r : Nat) (hc : c ≤ 32) (hr : r ≤ 8) : wrap64 ((c : Int) + wrap64 (r : Int)) = ((c + r : Nat) : Int) := by unfold wrap64; omega
theorem len_j0 (x : Nat) (c : Nat) (hc : c ≤ 32) (hx : x < 4294967296) : ∃ r : Nat, bits_Len64.j0 1 (x : Int) (c : Int) = some ((c + r : Nat) : Int) ∧ r ≤ 32 ∧ HasLen x r := by
 have e16 : (2 : Nat) ^ 16 = 65536 := by decide
 have e8 : (2 : Nat) ^ 8 = 256 := by decide
 obtain ⟨T, hT, tab_len⟩ := j0_ex
 rw [hT]
 by_cases h1 : x ≥ 65536
 ·rw [if_pos (by omega)]
  by_cases h2 : x / 65536 ≥ 256
  ·obtain ⟨r, hr, h8, hl⟩ := tab_len (x / 65536 / 256) (by omega)
   have e : ((x : Int) / 65536 / 256) % 256 = ((x / 65536 / 256 : Nat) : Int) := by omega
   rw [if_pos (by omega), if_pos (by omega), if_pos (by omega), e]
   refine ⟨16 + (8 + r), ?_, by omega, ?_⟩
   ·rw [hr, w_a c r hc h8]
   ·refine hasLen_shift (s := 16) (hasLen_shift (s := 8) ?_ ?_) ?_
    ·rw [e16, e8]; exact hl
    ·rw [e16, e8]; omega
    ·rw [e16]; omega
  ·obtain ⟨r, hr, h8, hl⟩ := tab_len (x / 65536) (by omega)
   have e : ((x : Int) / 65536) % 256 = ((x / 65536 : Nat) : Int) := by omega
   rw [if_neg (by omega), if_pos (by omega), if_pos (by omega), e]
   refine ⟨16 + r, ?_, by omega, ?_⟩
   ·rw [hr, w_b c r hc h8]
   ·refine hasLen_shift (s := 16) ?_ ?_
    ·rw [e16]; exact hl
    ·rw [e16]; omega
 ·rw [if_neg (by omega)]
  by_cases h2 : x ≥ 256
  ·obtain ⟨r, hr, h8, hl⟩ := tab_len (x / 256) (by omega)
   have e : ((x : Int) / 256) % 256 = ((x / 256 : Nat) : Int) := by omega
   rw [if_pos (by omega), if_pos (by omega), if_pos (by omega), e]
   refine ⟨8 + r, ?_, by omega, ?_⟩
   ·rw [hr, w_c c r hc h8]
   ·refine hasLen_shift (s := 8) ?_ ?_
    ·rw [e8]; exact hl
    ·rw [e8]; omega
  ·obtain ⟨r, hr, h8, hl⟩ := tab_len x (by omega)
   have e : (x : Int) % 256 = (x : Int) := by omega
   rw [if_neg (by omega), if_pos (by omega), if_pos (by omega), e]
   refine ⟨r, ?_, by omega, hl⟩
   rw [hr, w_d c r hc h8]
theorem len_ev (x : Nat) (hx : x < 18446744073709551616) : ∃ r : Nat, bits_Len.f 1 (x : Int) = some (r : Int) ∧ r ≤ 64 ∧ HasLen x r := by
 unfold bits_Len.f bits_Len64.f
 by_cases h : x ≥ 4294967296
 ·obtain ⟨r, hr, h8, hl⟩ := len_j0 (x / 4294967296) 32 (by omega) (by omega)
  have e : (x : Int) / 4294967296 = ((x / 4294967296 : Nat) : Int) := by omega
  have e32 : (2 : Nat) ^ 32 = 4294967296 := by decide
  rw [if_pos (by omega), e]
  have hr2 : bits_Len64.j0 1 ((x / 4294967296 : Nat) : Int) 32 = some ((32 + r : Nat) : Int) := hr
  rw [hr2]
  exact ⟨32 + r, rfl, by omega, hasLen_shift (s := 32) (by rw [e32]; exact hl) (by rw [e32]; omega)⟩
 ·obtain ⟨r, hr, h8, hl⟩ := len_j0 x 0 (by omega) (by omega)
  rw [if_neg (by omega)]
  have hr2 : bits_Len64.j0 1 (x : Int) 0 = some ((0 + r : Nat) : Int) := hr
  rw [hr2]
  exact ⟨r, by simp, by omega, hl⟩
def grN : Nat → Nat → Nat
 | 0, _ => 1
 | k + 1, n => if n ≤ 127 then 1 else grN k (n / 128) + 1
theorem grN_eq : ∀ (m k n : Nat), m ≤ k → 128 ^ m ≤ n → n < 128 ^ (m + 1) → grN k n = m + 1 := by
 intro m
 induction m with
 | zero =>
  intro k n hk h0 h1
  have h2 : n < 128 := by simpa using h1
  cases k with
  | zero => rfl
  | succ k => show (if n ≤ 127 then 1 else _) = 1; rw [if_pos (by omega)]
 | succ m ih =>
  intro k n hk h0 h1
  obtain ⟨k, rfl⟩ : ∃ j, k = j + 1 := ⟨k - 1, by omega⟩
  have hp : 0 < 128 ^ m := Nat.pow_pos (by omega)
  rw [Nat.pow_succ] at h0 h1
  show (if n ≤ 127 then 1 else grN k (n / 128) + 1) = _
  rw [if_neg (by omega), ih k (n / 128) (by omega) ((Nat.le_div_iff_mul_le (by omega)).2 h0) ((Nat.div_lt_iff_lt_mul (by omega)).2 h1)]
theorem grN_small (k n : Nat) (h : n ≤ 127) : grN k n = 1 := by
 cases k with
 | zero => rfl
 | succ k => show (if n ≤ 127 then 1 else _) = 1; rw [if_pos h]
theorem gr_len {n r : Nat} (h : HasLen n r) (h1 : 1 ≤ n) (k : Nat) (hk : r ≤ k) : grN k n = (r + 6) / 7 := by
 have h2 := h.2 h1
 have e := grN_eq ((r + 6) / 7 - 1) k n (by omega)
 have e7 : (128 : Nat) = 2 ^ 7 := by decide
 have hlo : 128 ^ ((r + 6) / 7 - 1) ≤ n := by
  rw [e7, ← Nat.pow_mul]
  exact Nat.le_trans (Nat.pow_le_pow_right (by omega) (by omega)) h2.2
 have hhi : n < 128 ^ ((r + 6) / 7 - 1 + 1) := by
  rw [e7, ← Nat.pow_mul]
  exact Nat.lt_of_lt_of_le h.1 (Nat.pow_le_pow_right (by omega) (by omega))
 rw [e hlo hhi]; omega
theorem psize_ev (n : Int) (h1 : n ≤ 9223372036854775807) (h0 : 0 ≤ n) : pack_Size.f 1 n = some ((grN 64 n.toNat : Nat) : Int) := by
 obtain ⟨x, rfl⟩ := Int.eq_ofNat_of_zero_le h0
 obtain ⟨r, hr, h64, hl⟩ := len_ev x (by omega)
 have eu : IntKind.u64.wrap (x : Int) = (x : Int) := by rw [IntKind.wrap_u64]; omega
 unfold pack_Size.f
 rw [if_neg (by omega), eu, hr]
 simp only [Option.bind_some, Int.toNat_natCast]
 congr 1
 have w1 : wrap64 (wrap64 ((r : Int) + 7) - 1) = (r : Int) + 6 := by unfold wrap64; omega
 rw [w1, Int.tdiv_eq_ediv_of_nonneg (by omega)]
 have w2 : wrap64 (((r : Int) + 6) / 7) = ((r : Int) + 6) / 7 := by unfold wrap64; omega
 rw [w2]
 by_cases hx : 1 ≤ x
 ·have h2 := gr_len hl hx 64 h64
  have h3 := (hl.2 hx).1
  rw [h2]
  unfold mx
  split <;> omega
 ·obtain rfl : x = 0 := by omega
  have hr0 : r = 0 ∨ 1 ≤ r := by omega
  rw [grN_small 64 0 (by omega)]
  have h4 : (r + 6) / 7 ≤ 1 ∨ 2 ≤ (r + 6) / 7 := by omega
  rcases h4 with h4 | h4
  ·unfold mx; split <;> omega
  ·exfalso
   -- the table has no bits at nothing
   have : bits_Len.f 1 ((0 : Nat) : Int) = some 0 := by decide +kernel
   rw [this] at hr
   have := Option.some.inj hr
   omega
def sizeP (n : Int) : Int := if n < 0 then 0 else ((grN 64 n.toNat : Nat) : Int)
theorem psize_all (n : Int) (h : n ≤ 9223372036854775807) : pack_Size.f 1 n = some (sizeP n) := by
 unfold sizeP
 by_cases h0 : n < 0
 ·unfold pack_Size.f; rw [if_pos h0, if_pos h0]
 ·rw [if_neg h0]; exact psize_ev n h (by omega)
end Go.Proofs.Ytalimpniimgheaa.Fn
namespace Go.Proofs.Ytalimpniimgheaa.Fn
open Go.RowKit Go.Proofs.YtalimpniimgheaaW.PrintWords Go.Proofs.YtalimpniimgheaaW.PrintLast Go.Proofs.YtalimpniimgheaaW.PrintMore
attribute [local go_sem] max2_int min2_int max_two min_two max_three min_three max_four min_four
set_option linter.unusedVariables false
set_option linter.unusedSimpArgs false
mutual
def parcloseref36_Put.l0 : Nat → List (S64) → Int → Option (List Int × Int)
 | 0, _, _ => none
 | k + 1, x0, x4 => if x4 < (x0.length : Int) then (if 0 ≤ x4 then (if ((rd_T64 x0 x4).f1) < 0 then (some (([] : List Int), 2)) else (if ((rd_T64 x0 x4).f1) > 15 then (some (([] : List Int), 2)) else (if ((rd_T64 x0 x4).f0) < 0 then (some (([] : List Int), 2)) else (if ((rd_T64 x0 x4).f0) ≥ 72057594037927936 then (some (([] : List Int), 2)) else (if ((rd_T64 x0 x4).f2) < 0 then (some (([] : List Int), 2)) else (if ((rd_T64 x0 x4).f2) ≥ 72057594037927936 then (some (([] : List Int), 2)) else (if ((rd_T64 x0 x4).f3) < 0 then (some (([] : List Int), 2)) else (if ((rd_T64 x0 x4).f3) ≥ 72057594037927936 then (some (([] : List Int), 2)) else (parcloseref36_Put.l0 k x0 (wrap64 (x4 + 1))))))))))) else (none)) else (if (x0.length : Int) > 65536 then (some (([] : List Int), 11)) else ((parcloseref02_Number.f k 4 (x0.length : Int)).bind fun t376 => (parcloseref36_Put.l1 k x0 t376 0 0)))
def parcloseref36_Put.l1 : Nat → List (S64) → List Int → Int → Int → Option (List Int × Int)
 | 0, _, _, _, _ => none
 | k + 1, x0, x6, x7, x8 => if x8 < (x0.length : Int) then (if 0 ≤ x8 then (if ((rd_T64 x0 x8).f0) = x7 then (parcloseref36_Put.j2 k x0 x6 x8 (wrap64 (((rd_T64 x0 x8).f1) + 64)) ([] : List Int) ((rd_T64 x0 x8).f0) ((rd_T64 x0 x8).f1) ((rd_T64 x0 x8).f2) ((rd_T64 x0 x8).f3)) else (if ((rd_T64 x0 x8).f0) = (wrap64 (x7 + 1)) then (parcloseref36_Put.j2 k x0 x6 x8 (wrap64 (((rd_T64 x0 x8).f1) + 128)) ([] : List Int) ((rd_T64 x0 x8).f0) ((rd_T64 x0 x8).f1) ((rd_T64 x0 x8).f2) ((rd_T64 x0 x8).f3)) else ((parcloseref02_Number.f k 7 ((rd_T64 x0 x8).f0)).bind fun t388 => (if ([] : List Int).length + t388.length < 140737488355328 then (parcloseref36_Put.j2 k x0 x6 x8 ((rd_T64 x0 x8).f1) (([] : List Int) ++ t388) ((rd_T64 x0 x8).f0) ((rd_T64 x0 x8).f1) ((rd_T64 x0 x8).f2) ((rd_T64 x0 x8).f3)) else (none))))) else (none)) else ((parcloseref36_Sum.f k x6).bind fun t379 => ((parcloseref02_Number.f k 2 t379).bind fun t380 => (if x6.length + t380.length < 140737488355328 then (some ((x6 ++ t380), 0)) else (none))))
def parcloseref36_Put.j2 : Nat → List (S64) → List Int → Int → Int → List Int → Int → Int → Int → Int → Option (List Int × Int)
 | 0, _, _, _, _, _, _, _, _, _ => none
 | k + 1, x0, x6, x8, x10, x11, x388000, x388001, x388002, x388003 => if x388002 = 0 then (if x388003 = 0 then (if x6.length < 140737488355328 then ((some (x6 ++ [(wrap64 ((wrap64 (x10 + 16)) + 32)) % 256] : List Int)).bind fun y394 => (if y394.length + x11.length < 140737488355328 then (parcloseref36_Put.l1 k x0 (y394 ++ x11) x388000 (wrap64 (x8 + 1))) else (none))) else (none)) else ((parcloseref02_Number.f k 7 x388003).bind fun t400 => (if x11.length + t400.length < 140737488355328 then ((some (x11 ++ t400 : List Int)).bind fun y403 => (if x6.length < 140737488355328 then ((some (x6 ++ [(wrap64 (x10 + 16)) % 256] : List Int)).bind fun y406 => (if y406.length + y403.length < 140737488355328 then (parcloseref36_Put.l1 k x0 (y406 ++ y403) x388000 (wrap64 (x8 + 1))) else (none))) else (none))) else (none)))) else ((parcloseref02_Number.f k 7 x388002).bind fun t412 => (if x11.length + t412.length < 140737488355328 then ((some (x11 ++ t412 : List Int)).bind fun y415 => (if x388003 = 0 then (if x6.length < 140737488355328 then ((some (x6 ++ [(wrap64 (x10 + 32)) % 256] : List Int)).bind fun y418 => (if y418.length + y415.length < 140737488355328 then (parcloseref36_Put.l1 k x0 (y418 ++ y415) x388000 (wrap64 (x8 + 1))) else (none))) else (none)) else ((parcloseref02_Number.f k 7 x388003).bind fun t424 => (if y415.length + t424.length < 140737488355328 then ((some (y415 ++ t424 : List Int)).bind fun y427 => (if x6.length < 140737488355328 then ((some (x6 ++ [(x10) % 256] : List Int)).bind fun y430 => (if y430.length + y427.length < 140737488355328 then (parcloseref36_Put.l1 k x0 (y430 ++ y427) x388000 (wrap64 (x8 + 1))) else (none))) else (none))) else (none))))) else (none)))
end
def parcloseref36_Put.f (k : Nat) (l0 : List (S64)) : Option (List Int × Int) := parcloseref36_Put.l0 k l0 0
end Go.Proofs.Ytalimpniimgheaa.Fn
namespace Go.Proofs.Ytalimpniimgheaa.Fn
open Go.RowKit Go.Proofs.YtalimpniimgheaaW.PrintWords Go.Proofs.YtalimpniimgheaaW.PrintLast Go.Proofs.YtalimpniimgheaaW.PrintMore
attribute [local go_sem] max2_int min2_int max_two min_two max_three min_three max_four min_four
set_option linter.unusedVariables false
set_option linter.unusedSimpArgs false
def parcloselaw36_owns.l0 : Nat → List (S64) → List (S65) → Int → Option ((List (S65)))
 | 0, _, _, _ => none
 | k + 1, x0, x3, x4 => if x4 < (x0.length : Int) then (if 0 ≤ x4 then (if x3.length < 4398046511104 then (parcloselaw36_owns.l0 k x0 (x3 ++ [(⟨(rd_T64 x0 x4).f0, (rd_T64 x0 x4).f1, (rd_T64 x0 x4).f2, (rd_T64 x0 x4).f3⟩ : S65)]) (wrap64 (x4 + 1))) else (none)) else (none)) else (some x3)
def parcloselaw36_owns.f (k : Nat) (l0 : List (S64)) : Option ((List (S65))) := parcloselaw36_owns.l0 k l0 ([] : List (S65)) 0
set_option maxHeartbeats 8000000 in
set_option maxRecDepth 100000 in
theorem parcloselaw36_owns.calls (k : Nat) (A0 : Option Addr) (c0 : Nat) (l0 : List (S64)) (r : List (S65)) (w : World) (hr0 : Kd.C k64 w A0 l0.length l0) (hc0 : l0.length ≤ c0) (h : parcloselaw36_owns.f k l0 = some r) :
  Calls Try.prog 54 #[.slice A0 l0.length c0] w fun e w' => ∃ v0_ : Value, e = .returned (v0_) ∧ Kd.R k65 65 w' w.heap.size (fun _ => True) v0_ r ∧ Below w.heap.size w w' := by
 have hu64 := Try.underlying64
 have HR0 := asd hr0
 have HC0 := asd hc0
 clear hr0 hc0
 have HB := asd (Below.refl w.heap.size w)
 have H : (parcloselaw36_owns.l0 k l0 ([] : List (S65)) 0) = some r := h
 clear h
 have H' := asd H
 clear H
 go_enter Try.func54, Try.ntmps54
 go_wp2
 go_loopg [3, 4] k (fun kq v3 v4 w' => ∃ (x3_1 : List (S65)) (x4_1 : Int), v4 = .int .i64 x4_1 ∧ Aside0 (parcloselaw36_owns.l0 kq l0 x3_1 x4_1 = some r) ∧ Aside0 (kq ≤ k) ∧ Aside0 (Kd.R k65 65 w' w.heap.size (fun _ => True) v3 x3_1) ∧ Aside0 (Below w.heap.size w w'))
 case atStart => exact ⟨(([] : List (S65))), (0), (by first | rfl | (simp; done) | (simp [*]; done)), H', ⟨Nat.le_refl _⟩, ⟨by first | exact Kd.R_nil _ _ _ _ _ | exact Kd.N_nil _ _ _ _ _ | exact Kd.V_nil _ _ _ _ _ | exact Kd.Q_nil _ _ _ _ _ | exact Kd.S_nil _ _ _ _ _⟩, ⟨by repeat (first | (with_reducible first | exact HB.out | apply wa | apply wn | apply wd) | exact HB.out)⟩⟩
 case round =>
  clear H'
  obtain ⟨x3_1, x4_1, rfl, HA, HK1, HO_3, HB⟩ := hrel
  cases gk with
  | zero => exact absurd HA.out (by simp [parcloselaw36_owns.l0])
  | succ k1 =>
   have H := HA.out
   clear HA
   simp only [parcloselaw36_owns.l0] at H
   by_cases c2 : x4_1 < (l0.length : Int)
   ·rw [if_pos c2] at H
    have c2b0 : decide (x4_1 < (l0.length : Int)) = true := decide_eq_true c2
    clear c2
    by_cases c3 : 0 ≤ x4_1
    ·rw [if_pos c3] at H
     have c3b0 : decide (0 ≤ x4_1) = true := decide_eq_true c3
     clear c3
     by_cases c4 : x3_1.length < 4398046511104
     ·rw [if_pos c4] at H
      have LMc4 := asd c4
      clear c4
      obtain ⟨y366, hy366⟩ : ∃ y_ : List (S65), y_ = (x3_1 ++ [(⟨(rd_T64 l0 x4_1).f0, (rd_T64 l0 x4_1).f1, (rd_T64 l0 x4_1).f2, (rd_T64 l0 x4_1).f3⟩ : S65)]) := ⟨_, rfl⟩
      replace H : (parcloselaw36_owns.l0 k1 l0 y366 (wrap64 (x4_1 + 1))) = some r := by first | (rw [hy366]; with_reducible exact H) | (have H2_ := (Option.bind_some _ _).symm.trans H; rw [hy366]; with_reducible exact H2_) | (have H2_ := (Option.bind_some _ _).symm.trans H; with_reducible exact H2_) | with_reducible exact H | (rw [hy366]; exact H) | exact H
      have Ny366 := asd hy366
      clear hy366
      have H' := asd H
      clear H
      have p365 : 0 ≤ (x4_1 : Int) := of_decide_eq_true (by assumption)
      have q365 : x4_1 < (l0.length : Int) := of_decide_eq_true (by assumption)
      obtain ⟨ad365, e365, hx365_0, hx365_1, hx365_2, hx365_3⟩ := at_T64 HR0.out x4_1 p365 q365
      cases e365
      replace hx365_0 := (HB.out.cell (World.block_lt_of_cell? w _ hx365_0)).trans hx365_0
      replace hx365_1 := (HB.out.cell (World.block_lt_of_cell? w _ hx365_1)).trans hx365_1
      replace hx365_2 := (HB.out.cell (World.block_lt_of_cell? w _ hx365_2)).trans hx365_2
      replace hx365_3 := (HB.out.cell (World.block_lt_of_cell? w _ hx365_3)).trans hx365_3
      replace p365 := eq_true p365
      replace q365 := eq_true q365
      go_wp2_with (first | ((with_reducible refine gate_builtin (b := .append) (xs := #[.tmp 11, .tmp 16]) rfl ?_); at_builtin; refine Kd.R_append k65 (w0 := w) w.heap.size rfl (.tmp 11) (.tmp 16) 31 65 (.agg #[(.int .i64 0), (.int .i64 0), (.int .i64 0), (.int .i64 0)]) 32 rfl Try.underlying31 info65 rfl (by decide) (by omega) u3 x3_1 (⟨(rd_T64 l0 x4_1).f0, (rd_T64 l0 x4_1).f1, (rd_T64 l0 x4_1).f2, (rd_T64 l0 x4_1).f3⟩ : S65) [.int .i64 ((rd_T64 l0 x4_1).f0), .int .i64 ((rd_T64 l0 x4_1).f1), .int .i64 ((rd_T64 l0 x4_1).f2), .int .i64 ((rd_T64 l0 x4_1).f3)] (fun _ => True) (fun _ => False) rfl rfl ?aP (fun _ hk => hk.elim) ?aF ?aO ?aB ?aS ?aL ?_; (case aP => exact k65_mkM _ _ _ (⟨(rd_T64 l0 x4_1).f0, (rd_T64 l0 x4_1).f1, (rd_T64 l0 x4_1).f2, (rd_T64 l0 x4_1).f3⟩ : S65)); (case aB => exact (by repeat (first | (with_reducible first | exact HB.out | apply wa | apply wn | apply wd) | exact HB.out))); (case aF => exact (fun _ _ => trivial)); (case aO => exact (by (with_reducible repeat (first | apply Kd.R_alloc | apply Kd.R_drewN | apply Kd.R_drew)); exact HO_3.out)); (case aS => exact (below_size (by repeat (first | (with_reducible first | exact HB.out | apply wa | apply wn | apply wd) | exact HB.out)))); (case aL => have := LMc4.out; omega); intro v367 w5 ho hb hg hat; rw [← Ny366.out] at ho; have n0_ := asd (hb); have n1_ := asd (ho); clear HB; clear HO_3; have HB := n0_; have HO368 := n1_; clear n0_ n1_; clear ho hb hg hat))
      go_roundg k1
      case measure => have := HK1.out; omega
      case rel => exact ⟨(y366), (wrap64 (x4_1 + 1)), (by first | rfl | (simp; done) | (simp [*]; done)), H', ⟨by have := HK1.out; omega⟩, ⟨by (with_reducible repeat (first | apply Kd.R_alloc | apply Kd.R_drewN | apply Kd.R_drew)); exact HO368.out⟩, ⟨by repeat (first | (with_reducible first | exact HB.out | apply wa | apply wn | apply wd) | exact HB.out)⟩⟩
     ·rw [if_neg c4] at H
      exact absurd H (by simp)
    ·rw [if_neg c3] at H
     exact absurd H (by simp)
   ·rw [if_neg c2] at H
    have c2b0 : decide (x4_1 < (l0.length : Int)) = false := decide_eq_false c2
    clear c2
    obtain rfl := Option.some.inj H
    go_wp2
    go_ret
    exact ⟨_, by first | rfl | (simp [*] <;> rfl), by (with_reducible repeat (first | apply Kd.R_alloc | apply Kd.R_drewN | apply Kd.R_drew)); exact HO_3.out, by repeat (first | (with_reducible first | exact HB.out | apply wa | apply wn | apply wd) | exact HB.out)⟩
end Go.Proofs.Ytalimpniimgheaa.Fn
namespace Go.Proofs.Ytalimpniimgheaa.Fn
open Go.RowKit Go.Proofs.YtalimpniimgheaaW.PrintWords Go.Proofs.YtalimpniimgheaaW.PrintLast Go.Proofs.YtalimpniimgheaaW.PrintMore
set_option linter.unusedVariables false
set_option linter.unusedSimpArgs false
def eP (x : S64) : S65 := ⟨x.f0, x.f1, x.f2, x.f3⟩
theorem pk_rd64 (xs : List S64) (i : Nat) : rd_T64 xs (i : Int) = xs.getD i z64 := by unfold rd_T64; rw [Int.toNat_natCast]
theorem powns_go (l : List S64) (hl : l.length ≤ 100000) : ∀ n (i : Nat), l.length - i = n → i ≤ l.length → ∃ k, parcloselaw36_owns.l0 k l ((l.take i).map eP) (i : Int) = some (l.map eP) := by
 intro n
 induction n with
 | zero =>
  intro i hn hi
  refine ⟨1, ?_⟩
  unfold parcloselaw36_owns.l0
  rw [if_neg (by omega), List.take_of_length_le (by omega)]
 | succ n ih =>
  intro i hn hi
  obtain ⟨k, hk⟩ := ih (i + 1) (by omega) (by omega)
  refine ⟨k + 1, ?_⟩
  have hi2 : i < l.length := by omega
  have hsn : (l.take (i + 1)).map eP = (l.take i).map eP ++ [eP (l.getD i z64)] := by rw [List.take_succ_eq_append_getElem hi2, List.map_append, getD_lt l z64 hi2]; rfl
  rw [hsn] at hk
  unfold parcloselaw36_owns.l0
  rw [if_pos (by omega), if_pos (by omega), if_pos (by rw [List.length_map, List.length_take]; omega), pk_rd64, pk_w64 i (by omega)]
  exact hk
theorem powns_ev (l : List S64) (hl : l.length ≤ 100000) : ∃ k, parcloselaw36_owns.f k l = some (l.map eP) := powns_go l hl _ 0 rfl (Nat.zero_le _)
end Go.Proofs.Ytalimpniimgheaa.Fn
namespace Go.Proofs.Ytalimpniimgheaa.Fn
open Go.RowKit Go.Proofs.YtalimpniimgheaaW.PrintWords Go.Proofs.YtalimpniimgheaaW.PrintLast Go.Proofs.YtalimpniimgheaaW.PrintMore
attribute [local go_sem] max2_int min2_int max_two min_two max_three min_three max_four min_four
set_option linter.unusedVariables false
set_option linter.unusedSimpArgs false
def parcloselaw36_num.f (a0 : Int) : Option (Int) := some a0
set_option maxHeartbeats 8000000 in
set_option maxRecDepth 100000 in
theorem parcloselaw36_num.calls (a0 : Int) (r : Int) (w : World) (h : parcloselaw36_num.f a0 = some r) :
  Calls Try.prog 56 #[.int .i64 a0] w fun e w' => e = .returned (.int .i64 r) ∧ Drawn0 w w' := by
 have H : (some a0) = some r := h
 clear h
 obtain rfl := Option.some.inj H
 go_enter Try.func56, Try.ntmps56
 go_wp2
 go_ret
 exact ⟨by first | rfl | (simp; done) | (simp [*]; done), by repeat (first | exact Drawn0.refl _ | apply Drawn0.step)⟩
end Go.Proofs.Ytalimpniimgheaa.Fn
namespace Go.Proofs.Ytalimpniimgheaa.Fn
open Go.RowKit Go.Proofs.YtalimpniimgheaaW.PrintWords Go.Proofs.YtalimpniimgheaaW.PrintLast Go.Proofs.YtalimpniimgheaaW.PrintMore
set_option linter.unusedVariables false
set_option linter.unusedSimpArgs false
instance decS65 : DecidableEq S65 := fun a b => decidable_of_iff (a.f0 = b.f0 ∧ a.f1 = b.f1 ∧ a.f2 = b.f2 ∧ a.f3 = b.f3) (by cases a; cases b; simp)
def xK : S65 := ⟨1, 3, 5, 0⟩
def bsK : List Int := [0, 0, 0, 1, 163, 0, 0, 0, 0, 0, 0, 5, 23, 139]
theorem putK : putP [xK] = (bsK, 0) := by decide +kernel
theorem getK : getP bsK = ([xK], 0) := by decide +kernel
theorem bytesK : Bytes bsK := by unfold Bytes bsK; simp
theorem C_one65 {w : World} {g t : Nat} {a b c d : Int} (h : w.heap[g]? = some (.cells #[.int .i64 a, .int .i64 b, .int .i64 c, .int .i64 d] t (0, 0))) : Kd.C k65 w (some ⟨g, 0, none⟩) 1 [(⟨a, b, c, d⟩ : S65)] := by
 refine ⟨rfl, by simp, fun _ => ⟨_, rfl, ?_⟩⟩
 intro j p hp
 match j, hp with
 | 0, hp =>
  cases hp
  refine ⟨_, rfl, k65_mk w ⟨a, b, c, d⟩, fun i u hu => ?_⟩
  have h2 := blk_cell h i
  rw [add_plain, show 0 * k65.sz + i = i by simp]
  rw [h2]
  match i with
  | 0 => exact hu
  | 1 => exact hu
  | 2 => exact hu
  | 3 => exact hu
  | i + 4 => exact absurd hu (by simp)
 | j + 1, hp => exact absurd hp (by simp)
theorem at_u8 {w : World} {A : Option Addr} {n : Nat} {ys : List Int} (h : Kd.C (Kd.int .u8) w A n ys) (i : Int) (h0 : 0 ≤ i) (h1 : i < n) : ∃ ad, A = some ad ∧ w.cell? (ad.add i.toNat) = some (.int .u8 (ys.getD i.toNat 0)) := by
 obtain ⟨ad, cc, rfl, _, hK, hc0⟩ := Kd.C_get h 0 i h0 h1
 have ee : cc = [.int .u8 (ys.getD i.toNat 0)] := hK
 subst ee
 refine ⟨ad, rfl, ?_⟩
 have h := hc0 0 _ rfl
 rwa [show i.toNat * (Kd.int .u8).sz + 0 = i.toNat from Nat.mul_one _] at h
theorem sizeK : sizeP 128 = 2 := by decide +kernel
set_option maxHeartbeats 8000000 in
set_option maxRecDepth 100000 in
theorem pknows_calls (w : World) : Calls Try.prog 52 #[] w fun e w' => e = .returned (.bool true) ∧ Below w.heap.size w w' := by
 have hu := Try.underlying65
 have C1 := asd (C_one65 (heap_alloc_new w (.cells #[.int .i64 1, .int .i64 3, .int .i64 5, .int .i64 0] 65)))
 have HB0 := asd (below_alloc (Below.refl w.heap.size w) (.cells #[.int .i64 1, .int .i64 3, .int .i64 5, .int .i64 0] 65))
 have SZ := asd (fun wx => pack_Size.calls 1 128 (sizeP 128) wx (psize_all 128 (by omega)))
 rw [sizeK] at SZ
 go_enter Try.func52, Try.ntmps52
 go_wp2_with fail
 generalize w.alloc (.cells #[.int .i64 1, .int .i64 3, .int .i64 5, .int .i64 0] 65) = w1 at C1 HB0 ⊢
 have PC : Calls Try.prog 53 #[.slice (some ⟨w.heap.size, 0, none⟩) 1 1] w1 fun e w' => ∃ A' c', e = .returned (.tuple #[.slice A' 14 c', .int .i64 0]) ∧ 14 ≤ c' ∧ Kd.C (Kd.int .u8) w' A' 14 bsK ∧ Below w1.heap.size w1 w' := by
  have h := pPut_calls (some ⟨w.heap.size, 0, none⟩) 1 [xK] w1 C1.out (Nat.le_refl _) (by decide)
  rw [putK] at h
  exact h
 refine PC.mono ?_
 rintro e w2 ⟨A2, c2, rfl, hc2, hC2, hb⟩
 have C2 := asd (And.intro hc2 hC2)
 have HB1 := asd (below_step HB0.out hb)
 clear PC hc2 hC2 hb C1 HB0
 go_wp2_with fail
 have GC : Calls Try.prog 61 #[.slice A2 14 c2] w2 fun e w' => ∃ A' c', e = .returned (.tuple #[.slice A' 1 c', .int .i64 0]) ∧ 1 ≤ c' ∧ Kd.C k65 w' A' 1 [xK] ∧ Below w2.heap.size w2 w' := by
  have h := pGet_calls A2 c2 bsK w2 C2.out.2 C2.out.1 bytesK (by decide)
  rw [getK] at h
  exact h
 refine GC.mono ?_
 rintro e w3 ⟨A3, c3, rfl, hc3, hC3, hb⟩
 have C3 := asd (And.intro hc3 hC3)
 have HB := asd (below_step HB1.out hb)
 have C2b := asd (Kd.C_below C2.out.2 hb)
 clear GC hc3 hC3 hb HB1 C2
 go_wp2_with fail
 refine (parcloselaw36_num.calls _ _ _ rfl).mono ?_
 rintro e w4 ⟨rfl, hd⟩
 have HB4 := asd (below_step HB.out hd.below)
 have C2c := asd (Kd.C_below C2b.out hd.below)
 have C3c := asd (Kd.C_below C3.out.2 hd.below)
 clear hd HB C2b C3
 go_wp2_with fail
 refine (parcloselaw36_num.calls _ _ _ rfl).mono ?_
 rintro e w5 ⟨rfl, hd⟩
 have HB5 := asd (below_step HB4.out hd.below)
 obtain ⟨ad2, rfl, y4⟩ := at_u8 (Kd.C_below C2c.out hd.below) 4 (by decide) (by decide)
 obtain ⟨ad3, rfl, _, _, z2, _⟩ := at_T65 (Kd.C_below C3c.out hd.below) 0 (by decide) (by decide)
 have ez : ad2.add 0 = ad2 := by cases ad2; rfl
 have y5 : w5.cell? ⟨ad2.block, ad2.off + 4, none⟩ = some (.int .u8 163) := by
  have h := y4
  rw [show ((4 : Int).toNat) = 0 + 4 from rfl, add_field ad2 0 4 (by omega), ez] at h
  exact h
 have ea : ad3.add ((0 : Int).toNat * 4) = ad3 := by cases ad3; rfl
 rw [ea] at z2
 have z3 : w5.cell? ⟨ad3.block, ad3.off + 2, none⟩ = some (.int .i64 5) := z2
 clear hd HB4 C2c C3c y4 z2 ea ez
 go_wp2_with (first | (go_at_call 57; refine (SZ.out _).mono ?_; rintro e w6 ⟨rfl, hb⟩; have HB6 := asd (below_step HB5.out hb); clear hb))
 go_ret
 exact ⟨rfl, HB6.out⟩
end Go.Proofs.Ytalimpniimgheaa.Fn
namespace Go.Proofs.Ytalimpniimgheaa.Fn
open Go.RowKit Go.Proofs.YtalimpniimgheaaW.PrintWords Go.Proofs.YtalimpniimgheaaW.PrintLast Go.Proofs.YtalimpniimgheaaW.PrintMore
set_option linter.unusedVariables false
set_option linter.unusedSimpArgs false
end Go.Proofs.Ytalimpniimgheaa.Fn
namespace Go.Proofs.Ytalimpniimgheaa.Fn
open Go.RowKit Go.Proofs.YtalimpniimgheaaW.PrintWords Go.Proofs.YtalimpniimgheaaW.PrintLast Go.Proofs.YtalimpniimgheaaW.PrintMore
set_option linter.unusedVariables false
set_option linter.unusedSimpArgs false
set_option maxHeartbeats 8000000 in
set_option maxRecDepth 100000 in
theorem cloneP67_calls (A0 : Option Addr) (c0 : Nat) (l0 : List S65) (w : World) (hr0 : Kd.C k65 w A0 l0.length l0) (hl : l0.length < 4398046511104) :
  Calls Try.prog 67 #[.slice A0 l0.length c0] w fun e w' => ∃ v0_ : Value, e = .returned (v0_) ∧ Kd.R k65 65 w' w.heap.size (fun _ => True) v0_ l0 ∧ Below w.heap.size w w' := by
 have HR0 := asd hr0
 have HC1 := asd hl
 clear hr0 hl
 have hq := fun (w : World) (a : Option Addr) n c => Lib.run_eql_slice_nil (P := Try.prog) w 31 65 a n c 0 0 Try.underlying31
 cases A0 with
 | none =>
  have e0 : l0 = [] := by
   rcases Nat.eq_zero_or_pos l0.length with h0 | h0
   ·exact List.eq_nil_of_length_eq_zero h0
   ·obtain ⟨ad, h, _⟩ := HR0.out.2.2 h0; cases h
  subst e0
  go_enter Try.func67, Try.ntmps67
  go_wp2
  go_ret
  exact ⟨_, rfl, Kd.R_nil _ _ _ _ _, Below.refl _ _⟩
 | some ad =>
  go_enter Try.func67, Try.ntmps67
  go_wp2_with (first | ((with_reducible refine gate_dst (N := 5) rfl ?_); refine Kd.R_lit k65 _ 65 ?hg (N := 5) ?hd (xs := ([] : List S65)) (inner := []) (ok := fun _ => True) (okp := fun _ => True) ?hr ?hp (fun _ hk => hk) trivial (Below.refl _ _) (Nat.le_refl _) (by simp) ?_; (case hd => rfl); (case hg => rfl); (case hr => first | (go_simp; done) | (go_simp; rfl)); (case hp => exact (Reps.none _ _)); intro v1 w1 ho hb hg hat; have HO := asd ho; have HB := asd hb; clear ho hb hg hat) | ((with_reducible refine gate_builtin (b := .append) (xs := #[.tmp 5, .tmp 6]) rfl ?_); at_builtin; refine Kd.R_append_rows k65 (w0 := w) w.heap.size rfl (.tmp 5) (.tmp 6) 31 65 (.agg #[.int .i64 0, .int .i64 0, .int .i64 0, .int .i64 0]) 32 rfl Try.underlying31 info65 rfl (by decide) (by omega) v1 [] l0 _ _ _ (fun _ => True) (fun _ => False) rfl rfl ?aO ?aR (fun _ _ h => h) (fun _ h => h.elim) ?aF ?aB ?aS ?aL ?_; (case aR => exact Kd.C_below HR0.out HB.out); (case aB => exact HB.out); (case aF => exact (fun _ _ => trivial)); (case aO => exact HO.out); (case aS => exact HB.out.size); (case aL => have := HC1.out; simp only [List.length_nil]; omega); intro v2 w2 ho2 hb2 hg2 hat2; have HO2 := asd ho2; have HB2 := asd hb2; clear ho2 hb2 hg2 hat2))
  go_ret
  exact ⟨_, rfl, HO2.out, HB2.out⟩
def gE (l : List S65) (i : Nat) : S65 := l.getD i z65
structure RunsOf (l : List S65) (out : List (List S65)) : Prop where
 flat : out.flatten = l
 ne : ∀ j, j < out.length → 0 < (out.getD j []).length
 uni : ∀ j, j < out.length → ∀ k, k < (out.getD j []).length → (gE (out.getD j []) k).f0 = (gE (out.getD j []) 0).f0
 adj : ∀ j, j + 1 < out.length → (gE (out.getD (j + 1) []) 0).f0 ≠ (gE (out.getD j []) 0).f0
structure RunInv (l : List S65) (out : List (List S65)) (fr i : Nat) : Prop where
 le : fr ≤ i
 flat : out.flatten = l.take fr
 ne : ∀ j, j < out.length → 0 < (out.getD j []).length
 uni : ∀ j, j < out.length → ∀ k, k < (out.getD j []).length → (gE (out.getD j []) k).f0 = (gE (out.getD j []) 0).f0
 adj : ∀ j, j + 1 < out.length → (gE (out.getD (j + 1) []) 0).f0 ≠ (gE (out.getD j []) 0).f0
 pend : ∀ k, fr ≤ k → k ≤ i → k < l.length → (gE l k).f0 = (gE l fr).f0
 last : 0 < out.length → fr < l.length → (gE (out.getD (out.length - 1) []) 0).f0 ≠ (gE l fr).f0
 fin : i = l.length → fr = l.length
theorem RunInv.start (l : List S65) : RunInv l [] 0 0 :=
 ⟨Nat.le_refl _, by simp, fun j hj => absurd hj (by simp), fun j hj => absurd hj (by simp), fun j hj => absurd hj (by simp), fun k h1 h2 _ => by rw [show k = 0 by omega], fun h => absurd h (by simp), fun h => by omega⟩
theorem RunInv.done {l : List S65} {out : List (List S65)} {fr : Nat} (h : RunInv l out fr l.length) : RunsOf l out :=
 ⟨by rw [h.flat, h.fin rfl, List.take_length], h.ne, h.uni, h.adj⟩
theorem RunInv.on {l : List S65} {out : List (List S65)} {fr i : Nat} (h : RunInv l out fr i) (h1 : i + 1 < l.length) (h2 : (gE l (i + 1)).f0 = (gE l i).f0) : RunInv l out fr (i + 1) :=
 ⟨by have := h.le; omega, h.flat, h.ne, h.uni, h.adj, fun k a b c => by
  by_cases e : k = i + 1
  ·subst e; rw [h2]; exact h.pend i h.le (Nat.le_refl _) (by omega)
  ·exact h.pend k a (by omega) c, h.last, fun e => by omega⟩
def cutRun (l : List S65) (fr i : Nat) : List S65 := (l.take (i + 1)).drop fr
theorem cutRun_len (l : List S65) (fr i : Nat) (h : i < l.length) : (cutRun l fr i).length = i + 1 - fr := by unfold cutRun; rw [List.length_drop, List.length_take]; omega
theorem cutRun_get (l : List S65) (fr i k : Nat) (h : i < l.length) (hk : k < i + 1 - fr) : gE (cutRun l fr i) k = gE l (fr + k) := by
 unfold gE cutRun
 simp only [List.getD_eq_getElem?_getD, List.getElem?_drop]
 rw [List.getElem?_take_of_lt (by omega)]
theorem getD_app1 {α : Type} (l : List α) (x z : α) (j : Nat) (h : j < l.length) : (l ++ [x]).getD j z = l.getD j z := by
 simp [List.getD_eq_getElem?_getD, List.getElem?_append_left h]
theorem getD_app2 {α : Type} (l : List α) (x z : α) : (l ++ [x]).getD l.length z = x := by simp [List.getD_eq_getElem?_getD]
theorem RunInv.close {l : List S65} {out : List (List S65)} {fr i : Nat} (h : RunInv l out fr i) (h1 : i < l.length) (h2 : i + 1 < l.length → (gE l (i + 1)).f0 ≠ (gE l i).f0) : RunInv l (out ++ [cutRun l fr i]) (i + 1) (i + 1) := by
 have hle := h.le
 have hlen := cutRun_len l fr i h1
 have get : ∀ j, j < out.length → (out ++ [cutRun l fr i]).getD j [] = out.getD j [] := fun j hj => getD_app1 _ _ _ _ hj
 have getl : (out ++ [cutRun l fr i]).getD out.length [] = cutRun l fr i := getD_app2 _ _ _
 have tick : ∀ k, k < i + 1 - fr → (gE (cutRun l fr i) k).f0 = (gE l fr).f0 := fun k hk => by
  rw [cutRun_get l fr i k h1 hk]; exact h.pend (fr + k) (by omega) (by omega) (by omega)
 refine ⟨Nat.le_refl _, ?_, fun j hj => ?_, fun j hj k hk => ?_, fun j hj => ?_, fun k a b c => by rw [show k = i + 1 by omega], fun _ hlt => ?_, fun e => e⟩
 ·rw [List.flatten_append, h.flat]
  simp only [List.flatten_cons, List.flatten_nil, List.append_nil]
  unfold cutRun
  have e : l.take fr = (l.take (i + 1)).take fr := by rw [List.take_take, Nat.min_eq_left (by omega)]
  rw [e, List.take_append_drop]
 ·rw [List.length_append, List.length_singleton] at hj
  by_cases e : j = out.length
  ·subst e; rw [getl, hlen]; omega
  ·rw [get j (by omega)]; exact h.ne j (by omega)
 ·rw [List.length_append, List.length_singleton] at hj
  by_cases e : j = out.length
  ·subst e
   rw [getl] at hk ⊢
   rw [hlen] at hk
   rw [tick k hk, tick 0 (by omega)]
  ·rw [get j (by omega)] at hk ⊢; exact h.uni j (by omega) k hk
 ·rw [List.length_append, List.length_singleton] at hj
  by_cases e : j + 1 = out.length
  ·rw [e, getl, tick 0 (by omega), get j (by omega)]
   have h3 := h.last (by omega) (by omega)
   rw [show out.length - 1 = j by omega] at h3
   exact fun q => h3 q.symm
  ·rw [get (j + 1) (by omega), get j (by omega)]; exact h.adj j (by omega)
 ·rw [List.length_append, List.length_singleton, Nat.add_sub_cancel, getl, tick 0 (by omega), ← h.pend i h.le (Nat.le_refl _) h1]
  exact fun q => h2 hlt q.symm
theorem rdE65 (xs : List S65) (i : Nat) : rd_T65 xs (i : Int) = gE xs i := by unfold rd_T65 gE; rw [Int.toNat_natCast]
set_option maxHeartbeats 8000000 in
set_option maxRecDepth 100000 in
theorem pruns_calls (A0 : Option Addr) (c0 : Nat) (l : List S65) (w : World) (hr : Kd.C k65 w A0 l.length l) (hc : l.length ≤ c0) (hl : l.length ≤ 1000) :
  Calls Try.prog 63 #[.slice A0 l.length c0] w fun e w' => ∃ v out, e = .returned v ∧ RunsOf l out ∧ (Kd.slice 65 k65).R 31 w' w.heap.size (fun _ => True) v out ∧ Below w.heap.size w w' := by
 have hu65 := Try.underlying65
 have HR := asd hr
 have HC := asd hc
 have HL := asd hl
 have l99 : (l.length : Int) ≤ 1000 := by omega
 obtain ⟨ib, hib, hzb⟩ := Option.map_eq_some_iff.1 info65
 have CUT := asd (fun (lo hi : Int) (h0 : 0 ≤ lo) (h1 : lo ≤ hi) (h2 : hi ≤ (l.length : Int)) => cut_mid (P := Try.prog) 31 65 .i64 .i64 Try.underlying31 hib 4 (by simp only [Prod.mk.injEq] at hzb; exact hzb.2.1) A0 l.length c0 lo hi h0 h1 h2 hc)
 clear hr hc hl hib hzb
 go_enter Try.func63, Try.ntmps63
 go_wp2
 go_loopw [3, 4, 8] (fun v3 v4 v8 wr => ∃ (i fr : Nat) (out : List (List S65)) (Ao : Option Addr) (co : Nat), v3 = .slice Ao out.length co ∧ v4 = .int .i64 fr ∧ v8 = .int .i64 i ∧ Aside0 (i ≤ l.length ∧ out.length ≤ i) ∧ Aside0 (RunInv l out fr i) ∧ Aside0 ((Kd.slice 65 k65).R 31 wr w.heap.size (fun _ => True) (.slice Ao out.length co) out) ∧ Aside0 (Below w.heap.size w wr)) (fun _ _ v => fun _ => l.length - (intOf v).toNat)
 case atStart => exact ⟨0, 0, [], none, 0, rfl, rfl, rfl, ⟨by omega, by simp⟩, ⟨RunInv.start l⟩, ⟨Kd.R_nil _ _ _ _ _⟩, ⟨Below.refl _ _⟩⟩
 case round =>
  obtain ⟨i, fr, out, Ao, co, rfl, rfl, rfl, HX, HI, RO, HB⟩ := hrel
  have i99 : (i : Int) ≤ 1000 := by have := HX.out; omega
  by_cases hlt : i < l.length
  ·have q0 : ((i : Int) < (l.length : Int)) = True := eq_true (by omega)
   have q1 : decide ((i : Int) < (l.length : Int)) = true := decide_eq_true (by omega)
   have q2 : decide (i < l.length) = true := decide_eq_true hlt
   have e1 : ((i : Int) + 1).toNat = i + 1 := by omega
   have fi : (fr : Int) ≤ (i : Int) := by have := HI.out.le; omega
   have HLT := asd hlt
   have hcl := Kd.C_below HR.out HB.out
   obtain ⟨ad, rfl, y0, _⟩ := at_T65 hcl (i : Int) (by omega) (by omega)
   rw [rdE65] at y0
   simp only [Int.toNat_natCast] at y0
   have hcut := CUT.out (fr : Int) ((i : Int) + 1) (by omega) (by omega) (by omega)
   rw [e1, Int.toNat_natCast] at hcut
   have MID := asd (Kd.C_mid (c := c0) hcl (lo := fr) (hi := i + 1) (by have := HI.out.le; omega) (by omega) HC.out)
   by_cases hcl2 : i + 1 = l.length ∨ (gE l (i + 1)).f0 ≠ (gE l i).f0
   ·have CLN : Aside0 (RunInv l (out ++ [cutRun l fr i]) (i + 1) (i + 1)) := ⟨HI.out.close hlt (fun h => hcl2.elim (fun q => by omega) (fun q => q))⟩
    have CC := asd (cloneP67_calls (if c0 = fr then some ad else (some ad).map (·.add (fr * 4))) (c0 - fr) (cutRun l fr i) wr.drew (Kd.C_drew MID.out) (by rw [cutRun_len l fr i hlt]; omega))
    have cl := cutRun_len l fr i hlt
    rw [cl] at CC
    generalize (if c0 = fr then some ad else (some ad).map (·.add (fr * 4))) = sA at hcut CC
    have CL0 := asd cl
    generalize cutRun l fr i = run at CLN CC CL0
    have SZd := asd (below_size HB.out)
    by_cases hend : i + 1 = l.length
    ·have b0 : ((i : Int) + 1 == (l.length : Int)) = true := beq_iff_eq.2 (by omega)
     clear hcl2 hlt hend MID cl hcl
     go_wp2
     go_region
     go_wp2_with fail
     refine CC.out.mono ?_
     rintro e w2 ⟨v, rfl, hv, hb⟩
     obtain ⟨A2, c2, rfl⟩ := Kd.R_slice hv
     rw [CL0.out]
     have R2 := asd (Kd.R_lower hv SZd.out)
     rw [CL0.out] at hv
     have RO2 := asd (Kd.R_below (Kd.R_drew RO.out) hb)
     have HB2 := asd (below_step (below_drew1 HB.out) hb)
     have AP : Aside0 (∀ k, (Value.slice A2 (i + 1 - fr) c2).ownBlock = some k → (Value.slice Ao out.length co).ownBlock ≠ some k) := ⟨fun k hk q => by
      have h1 := Kd.R_base hv k hk
      have h2 := Kd.R_lt RO.out k q
      have h3 : wr.drew.heap.size = wr.heap.size := rfl
      omega⟩
     clear hv hb CC hcut
     go_wp2_with (first | (at_builtin; refine Kd.R_append (Kd.slice 65 k65) (w0 := w) w.heap.size rfl (.tmp 30) (.tmp 37) 58 31 (.slice none 0 0) 24 rfl Try.underlying58 info31 rfl (by decide) (by omega) (.slice Ao out.length co) out run [.slice A2 (i + 1 - fr) c2] (fun _ => True) (fun k_ => some k_ = (Value.slice A2 (i + 1 - fr) c2).ownBlock) rfl rfl ?aP (fun k_ hk_ => ⟨trivial, fun q => AP.out k_ hk_.symm q.symm⟩) (fun _ _ => trivial) RO2.out HB2.out (below_size HB2.out) (by have := HX.out; omega) ?_; (case aP => have h := R2.out; rw [CL0.out] at h; exact Kd.M_row (Kd.R_mono (Kd.R_tight rfl h) (fun _ h => h))); intro v3 w3 ho hb hg hat; obtain ⟨A3, c3, rfl⟩ := Kd.R_slice ho; have RO3 := asd ho; have HB3 := asd hb; clear ho hb hg hat))
     go_roundw
     case rel => exact ⟨i + 1, i + 1, out ++ [run], A3, c3, by simp, by go_num, by go_num, ⟨HLT.out, by have := HX.out; simp; omega⟩, CLN, RO3, HB3⟩
     case measure => have := HLT.out; simp [intOf]; omega
    ·have hlt2 : i + 1 < l.length := by omega
     have b0 : ((i : Int) + 1 == (l.length : Int)) = false := beq_eq_false_iff_ne.2 (by omega)
     have r0 : ((i : Int) + 1 < (l.length : Int)) = True := eq_true (by omega)
     have r1 : (0 ≤ (i : Int) + 1) = True := eq_true (by omega)
     obtain ⟨ad', hae, y1, _⟩ := at_T65 hcl ((i + 1 : Nat) : Int) (by omega) (by omega)
     obtain rfl := Option.some.inj hae
     rw [rdE65] at y1
     simp only [Int.toNat_natCast] at y1
     have hne : (gE l (i + 1)).f0 ≠ (gE l i).f0 := hcl2.elim (fun q => absurd q hend) (fun q => q)
     generalize (gE l (i + 1)).f0 = u1 at y1 hne
     generalize (gE l i).f0 = u0 at y0 hne
     have b1 : (u1 != u0) = true := by simpa using hne
     have b2 : (u1 == u0) = false := beq_eq_false_iff_ne.2 hne
     clear hcl2 hlt hend MID cl hcl hae hne hlt2
     go_wp2
     go_region
     go_wp2_with fail
     refine CC.out.mono ?_
     rintro e w2 ⟨v, rfl, hv, hb⟩
     obtain ⟨A2, c2, rfl⟩ := Kd.R_slice hv
     rw [CL0.out]
     have R2 := asd (Kd.R_lower hv SZd.out)
     rw [CL0.out] at hv
     have RO2 := asd (Kd.R_below (Kd.R_drew RO.out) hb)
     have HB2 := asd (below_step (below_drew1 HB.out) hb)
     have AP : Aside0 (∀ k, (Value.slice A2 (i + 1 - fr) c2).ownBlock = some k → (Value.slice Ao out.length co).ownBlock ≠ some k) := ⟨fun k hk q => by
      have h1 := Kd.R_base hv k hk
      have h2 := Kd.R_lt RO.out k q
      have h3 : wr.drew.heap.size = wr.heap.size := rfl
      omega⟩
     clear hv hb CC hcut
     go_wp2_with (first | (at_builtin; refine Kd.R_append (Kd.slice 65 k65) (w0 := w) w.heap.size rfl (.tmp 30) (.tmp 37) 58 31 (.slice none 0 0) 24 rfl Try.underlying58 info31 rfl (by decide) (by omega) (.slice Ao out.length co) out run [.slice A2 (i + 1 - fr) c2] (fun _ => True) (fun k_ => some k_ = (Value.slice A2 (i + 1 - fr) c2).ownBlock) rfl rfl ?aP (fun k_ hk_ => ⟨trivial, fun q => AP.out k_ hk_.symm q.symm⟩) (fun _ _ => trivial) RO2.out HB2.out (below_size HB2.out) (by have := HX.out; omega) ?_; (case aP => have h := R2.out; rw [CL0.out] at h; exact Kd.M_row (Kd.R_mono (Kd.R_tight rfl h) (fun _ h => h))); intro v3 w3 ho hb hg hat; obtain ⟨A3, c3, rfl⟩ := Kd.R_slice ho; have RO3 := asd ho; have HB3 := asd hb; clear ho hb hg hat))
     go_roundw
     case rel => exact ⟨i + 1, i + 1, out ++ [run], A3, c3, by simp, by go_num, by go_num, ⟨HLT.out, by have := HX.out; simp; omega⟩, CLN, RO3, HB3⟩
     case measure => have := HLT.out; simp [intOf]; omega
   ·have hlt2 : i + 1 < l.length := by
     by_cases q : i + 1 = l.length
     ·exact absurd (.inl q) hcl2
     ·omega
    have heq : (gE l (i + 1)).f0 = (gE l i).f0 := by
     by_cases q : (gE l (i + 1)).f0 = (gE l i).f0
     ·exact q
     ·exact absurd (.inr q) hcl2
    have ON := asd (HI.out.on hlt2 heq)
    have b0 : ((i : Int) + 1 == (l.length : Int)) = false := beq_eq_false_iff_ne.2 (by omega)
    have r0 : ((i : Int) + 1 < (l.length : Int)) = True := eq_true (by omega)
    have r1 : (0 ≤ (i : Int) + 1) = True := eq_true (by omega)
    obtain ⟨ad', hae, y1, _⟩ := at_T65 hcl ((i + 1 : Nat) : Int) (by omega) (by omega)
    obtain rfl := Option.some.inj hae
    rw [rdE65] at y1
    simp only [Int.toNat_natCast] at y1
    rw [heq] at y1
    generalize (gE l i).f0 = u0 at y0 y1
    have b2 : (u0 != u0) = false := by simp
    clear hcl2 hlt MID hcl hae heq hlt2 hcut
    go_wp2
    go_region
    all_goals go_wp2
    all_goals go_roundw
    all_goals first
     | exact ⟨i + 1, fr, out, Ao, co, rfl, rfl, by go_num, ⟨HLT.out, by have := HX.out; omega⟩, ON, ⟨Kd.R_drew RO.out⟩, ⟨below_drew1 HB.out⟩⟩
     | (have := HLT.out; simp [intOf]; omega)
  ·have q1 : decide ((i : Int) < (l.length : Int)) = false := decide_eq_false (by omega)
   have q2 : decide (i < l.length) = false := decide_eq_false hlt
   have FIN : Aside0 (RunsOf l out) := ⟨by
    have h := HI.out
    rw [show i = l.length by have := HX.out.1; omega] at h
    exact h.done⟩
   clear hlt
   go_wp2
   go_ret
   exact ⟨_, out, rfl, FIN.out, RO.out, HB.out⟩
end Go.Proofs.Ytalimpniimgheaa.Fn
namespace Go.Proofs.Ytalimpniimgheaa.Fn
open Go.RowKit Go.Proofs.YtalimpniimgheaaW.PrintWords Go.Proofs.YtalimpniimgheaaW.PrintLast Go.Proofs.YtalimpniimgheaaW.PrintMore
set_option linter.unusedVariables false
set_option linter.unusedSimpArgs false
def prn13T : Bool × List (List Nat × List Nat) := (true, [([], []), ([], []), ([1], [1]), ([0, 2], [0, 2]), ([3], [3]), ([4], [4]), ([4], [4]), ([5, 6, 4], [4, 5, 6]), ([7, 4], [4, 7]), ([4], [4]), ([8, 9, 4], [4, 8, 9]), ([10, 4], [4, 10]), ([4], [4]), ([4], [4]), ([12, 13, 4], [4, 12, 13]), ([14, 4], [4, 14]), ([11, 15, 4], [4, 11, 15]), ([4, 16], [4, 16]), ([17, 4], [17]), ([18], [18]), ([18], [18]), ([19, 20, 18], [18, 19, 20]), ([21, 18], [18, 21]), ([18], [18]), ([22, 23, 18], [18, 22, 23]), ([24, 18], [18, 24]), ([25, 18], [18, 25]), ([18], [18]), ([18], [18]), ([27, 28, 18], [18, 27, 28]), ([29, 18], [18, 29]), ([30, 18], [18, 30]), ([31, 18], [18, 31]), ([32, 18], [18, 32]), ([26, 33, 18], [18, 26, 33]), ([18, 34], [18, 34])])
def prn13B : List Nat := [0, 0, 2, 7, 15, 31, 31, 127, 255, 31, 1023, 2047, 31, 31, 12319, 28703, 65535, 131071, 262143, 524287, 524287, 2097151, 4194303, 524287, 16777215, 33554431, 67108863, 524287, 524287, 403177471, 940048383, 2013790207, 4161273855, 8456241151, 17179869183, 34359738367]
theorem prn13_tab : rtab .any (opsOf Try.f12 13) = prn13T := by kernel_rfl
theorem prn13_bits : waitsOk prn13T.2 prn13B = true := by kernel_rfl
def offR (out : List (List S65)) (i : Nat) : Nat := ((out.take i).flatten).length
theorem offR_succ (out : List (List S65)) (i : Nat) (h : i < out.length) : offR out (i + 1) = offR out i + (out.getD i []).length := by
 unfold offR
 rw [List.take_succ_eq_append_getElem h, List.flatten_append, List.length_append]
 simp [List.getD, h]
theorem offR_get (out : List (List S65)) (i k : Nat) (h : i < out.length) (hk : k < (out.getD i []).length) : gE out.flatten (offR out i + k) = gE (out.getD i []) k ∧ offR out i + k < out.flatten.length := by
 have e : out = out.take i ++ (out.getD i [] :: out.drop (i + 1)) := by
  have h2 : out.getD i [] = out[i] := by simp [List.getD, h]
  rw [h2, ← List.drop_eq_getElem_cons h, List.take_append_drop]
 have ef : out.flatten = (out.take i).flatten ++ (out.getD i [] ++ (out.drop (i + 1)).flatten) := by
  conv => lhs; rw [e]
  rw [List.flatten_append, List.flatten_cons]
 unfold gE offR
 constructor
 ·rw [ef]
  simp only [List.getD_eq_getElem?_getD]
  rw [List.getElem?_append_right (by omega), Nat.add_sub_cancel_left]
  have hk2 : k < (out[i]?.getD []).length := by simpa [List.getD_eq_getElem?_getD] using hk
  rw [List.getElem?_append_left hk2]
 ·rw [ef]
  simp only [List.length_append]; omega
theorem offR_end (out : List (List S65)) : offR out out.length = out.flatten.length := by unfold offR; rw [List.take_length]
theorem offR_le (out : List (List S65)) (i : Nat) (h : i ≤ out.length) : offR out i ≤ out.flatten.length := by
 unfold offR
 have e : out.flatten = (out.take i).flatten ++ (out.drop i).flatten := by rw [← List.flatten_append, List.take_append_drop]
 rw [e, List.length_append]; omega
theorem rdL10 (xs : List (List S65)) (i : Nat) : rd_L10 xs (i : Int) = xs.getD i [] := by unfold rd_L10; rw [Int.toNat_natCast]
theorem gE_map (l : List S64) (i : Nat) (h : i < l.length) : gE (l.map eP) i = eP (l.getD i z64) := by
 unfold gE; simp [List.getD_eq_getElem?_getD, List.getElem?_map, List.getElem?_eq_getElem h]
set_option maxHeartbeats 4000000 in
set_option maxRecDepth 100000 in
theorem pruns_dark (a0 : Option Addr) (c0 : Nat) (x0 : List S64) (w : World) (hn : ¬ x0.length ≤ 200) : Calls Try.prog 12 #[.slice a0 x0.length c0] w fun e w' => e = .returned (.bool true) ∧ Below w.heap.size w w' := by
 have d0 : decide ((x0.length : Int) > 200) = true := decide_eq_true (by omega)
 have d1 : decide (200 < (x0.length : Int)) = true := d0
 clear hn
 go_enter Try.func12, Try.ntmps12
 go_wp2_with (first | (go_at_call 52; refine (pknows_calls _).mono ?_; rintro e wk ⟨rfl, hb⟩; have HBK := asd hb; clear hb))
 go_ret
 exact ⟨rfl, HBK.out⟩
set_option maxHeartbeats 16000000 in
set_option maxRecDepth 100000 in
theorem pruns_light (a0 : Option Addr) (c0 : Nat) (x0 : List S64) (w : World) (hr0 : Kd.C k64 w a0 x0.length x0) (hc0 : x0.length ≤ c0) (h0 : x0.length ≤ 200) : Calls Try.prog 12 #[.slice a0 x0.length c0] w fun e w' => e = .returned (.bool true) ∧ Below w.heap.size w w' := by
 have d0 : decide ((x0.length : Int) > 200) = false := decide_eq_false (by omega)
 have d1 : decide (200 < (x0.length : Int)) = false := d0
 have hu64 := Try.underlying64
 have hu65 := Try.underlying65
 have hu3 := Try.underlying3
 obtain ⟨k1, hk1⟩ := powns_ev x0 (by omega)
 have hml : (x0.map eP).length = x0.length := List.length_map _
 have OW := asd (fun w1 (h : Kd.C k64 w1 a0 x0.length x0) => parcloselaw36_owns.calls k1 a0 c0 x0 _ w1 h hc0 hk1)
 have RC := asd (fun A c w1 (h : Kd.C k65 w1 A x0.length (x0.map eP)) (hc : x0.length ≤ c) => pruns_calls A c (x0.map eP) w1 (by rw [hml]; exact h) (by rw [hml]; exact hc) (by rw [hml]; omega))
 simp only [List.length_map] at RC
 have H0 := asd hr0
 have L0 := asd h0
 have x99 : (x0.length : Int) ≤ 200 := by omega
 clear hr0 hc0 h0 hk1 hml
 go_enter Try.func12, Try.ntmps12
 go_wp2_with (first | (go_at_call 52; refine (pknows_calls _).mono ?_; rintro e wk ⟨rfl, hb⟩; have HBK := asd hb; clear hb))
 refine (OW.out wk (Kd.C_below H0.out HBK.out)).mono ?_
 rintro e w1 ⟨v, rfl, hv, hb⟩
 obtain ⟨A1, c2, rfl, hc2, hC2⟩ := Kd.R_reads hv
 rw [List.length_map] at hc2 hC2
 simp only [List.length_map]
 have C1 := asd (And.intro hc2 hC2)
 have HB1 := asd (below_step HBK.out hb)
 clear hv hb hc2 hC2 OW HBK
 go_wp2_with fail
 refine (RC.out A1 c2 w1 C1.out.2 C1.out.1).mono ?_
 rintro e w2 ⟨v, out, rfl, ho, hv, hb⟩
 obtain ⟨A2, c3, rfl, hc3, hC3⟩ := Kd.R_reads hv
 have C2 := asd hC3
 have RO := asd ho
 have HB2 := asd (below_step HB1.out hb)
 have FL : Aside0 (out.flatten.length = x0.length) := ⟨by rw [ho.flat, List.length_map]⟩
 have OL : Aside0 (out.length ≤ x0.length) := ⟨by
  have h1 : ∀ (os : List (List S65)), (∀ j, j < os.length → 0 < (os.getD j []).length) → os.length ≤ os.flatten.length := by
   intro os
   induction os with
   | nil => intro _; simp
   | cons o os ih =>
    intro h
    have h2 := ih (fun j hj => by have := h (j + 1) (by simp; omega); simpa using this)
    have h3 := h 0 (by simp)
    simp only [List.flatten_cons, List.length_append, List.length_cons]
    have h4 : 0 < o.length := by simpa using h3
    omega
  have := h1 out ho.ne
  rw [FL.out] at this; exact this⟩
 clear hv hb hc3 hC3 ho RC C1
 have o99 : (out.length : Int) ≤ 200 := by have := OL.out; omega
 go_wp2
 go_loopw [4, 5] (fun v4 v5 wr => ∃ i : Nat, v4 = .int .i64 (offR out i : Nat) ∧ v5 = .int .i64 i ∧ Aside0 (i ≤ out.length) ∧ Aside0 (Below w2.heap.size w2 wr)) (fun _ v => fun _ => 300 - (intOf v).toNat)
 case atStart => exact ⟨0, by simp [offR], rfl, ⟨Nat.zero_le _⟩, ⟨Below.refl _ _⟩⟩
 case round =>
  obtain ⟨i, rfl, rfl, HX, HB⟩ := hrel
  have i99 : (i : Int) ≤ 200 := by have := HX.out; omega
  by_cases hlt : i < out.length
  ·have q0 : ((i : Int) < (out.length : Int)) = True := eq_true (by omega)
   have q1 : decide ((i : Int) < (out.length : Int)) = true := decide_eq_true (by omega)
   have q2 : decide (i < out.length) = true := decide_eq_true hlt
   have hc2 := Kd.C_below C2.out HB.out
   have HLT := asd hlt
   obtain ⟨ad2, B, dB, rfl, y1, hdB, hCB⟩ := at_L10 hc2 (i : Int) (by omega) (by omega)
   rw [rdL10] at y1 hdB hCB
   simp only [Int.toNat_natCast] at y1
   have hne := RO.out.ne i hlt
   obtain ⟨adb, rfl, z0, _⟩ := at_T65 hCB 0 (by omega) (by omega)
   have ez : adb.add ((0 : Int).toNat * 4) = adb := by cases adb; rfl
   rw [ez, show rd_T65 (out.getD i []) 0 = gE (out.getD i []) 0 from rfl] at z0
   have b0 : (((out.getD i []).length : Int) == 0) = false := beq_eq_false_iff_ne.2 (by omega)
   have b0n : ((out.getD i []).length == 0) = false := beq_eq_false_iff_ne.2 (by omega)
   have pl : ((0 : Int) < ((out.getD i []).length : Int)) = True := eq_true (by omega)
   have RN := asd (fun k hk => RO.out.uni i hlt k hk)
   have OG := asd (fun k hk => offR_get out i k hlt hk)
   have OS := asd (offR_succ out i hlt)
   have CB := asd hCB
   have HAD := asd (fun (j : Nat) (hj : j + 1 = i) => RO.out.adj j (by omega))
   have NE := asd hne
   clear hdB ez hne hlt hCB
   have RL : Aside0 ((out.getD i []).length ≤ 200) := ⟨by
    have h1 := (OG.out ((out.getD i []).length - 1) (by have := NE.out; omega)).2
    have := FL.out; have := L0.out; have := NE.out; omega⟩
   have ML : Aside0 (offR out i ≤ 200) := ⟨by have := offR_le out i (by have := HLT.out; omega); have := FL.out; have := L0.out; omega⟩
   by_cases hi0 : i = 0
   ·have g0 : decide ((i : Int) > 0) = false := decide_eq_false (by omega)
    have g1 : decide (0 < (i : Int)) = false := g0
    have g2 : decide (0 < i) = false := decide_eq_false (by omega)
    clear HAD hi0
    generalize hrun : out.getD i [] = run at y1 z0 b0 b0n pl RN OG OS CB NE RL
    generalize hm : offR out i = m at OG OS ML ⊢
    have REQ : Aside0 (out.getD i [] = run) := ⟨hrun⟩
    clear hrun hm
    go_wp2
    go_region
    go_wp2
    have HB3 := asd (below_drew1 HB.out)
    have SB3 := asd (below_size HB3.out)
    clear z0 y1
    generalize wr.drew = wd at HB3 SB3 ⊢
    go_loopw [4, 6] (fun v4 v6 wq => ∃ k : Nat, v4 = .int .i64 ((m + k : Nat) : Int) ∧ v6 = .int .i64 k ∧ Aside0 (k ≤ run.length) ∧ Aside0 (Below w2.heap.size w2 wq)) (fun _ v => fun _ => 300 - (intOf v).toNat)
    case atStart => exact ⟨0, rfl, rfl, ⟨Nat.zero_le _⟩, HB3⟩
    case round =>
     rename World => wq
     obtain ⟨k, rfl, rfl, HK, HD⟩ := hrel
     have k99 : (k : Int) ≤ 200 := by have := HK.out; have := RL.out; omega
     have m99 : (m : Int) ≤ 200 := by have := ML.out; omega
     obtain ⟨ad4, B4, dB4, hae, y4, hdB4, hCB4⟩ := at_L10 (Kd.C_below C2.out HD.out) (i : Int) (by have := HLT.out; omega) (by have := HLT.out; omega)
     obtain rfl := Option.some.inj hae
     rw [rdL10, REQ.out] at y4 hdB4 hCB4
     simp only [Int.toNat_natCast] at y4
     by_cases hk : k < run.length
     ·have r0 : ((k : Int) < (run.length : Int)) = True := eq_true (by omega)
      have r1 : decide ((k : Int) < (run.length : Int)) = true := decide_eq_true (by omega)
      have r2 : decide (k < run.length) = true := decide_eq_true hk
      have hog := OG.out k hk
      have hlt4 : m + k < x0.length := by have := FL.out; omega
      have q0x : ((m : Int) + (k : Int) < (x0.length : Int)) = True := eq_true (by omega)
      have q1x : decide ((m : Int) + (k : Int) ≥ (x0.length : Int)) = false := decide_eq_false (by omega)
      have q2x : decide ((x0.length : Int) ≤ (m : Int) + (k : Int)) = false := q1x
      have q3x : (0 ≤ (m : Int) + (k : Int)) = True := eq_true (by omega)
      have q4x : ((m : Int) + (k : Int)).toNat = m + k := by omega
      obtain ⟨ade, rfl, z0, z1, z2, z3⟩ := at_T65 hCB4 (k : Int) (by omega) (by omega)
      obtain ⟨adf, hae2, zz, _⟩ := at_T65 hCB4 0 (by omega) (by omega)
      obtain rfl := Option.some.inj hae2
      have ez : ade.add ((0 : Int).toNat * 4) = ade := by cases ade; rfl
      rw [ez, show rd_T65 run 0 = gE run 0 from rfl, ← RN.out k hk] at zz
      obtain ⟨adl, rfl, u0, u1, u2, u3⟩ := at_T64 (Kd.C_below H0.out (below_step HB2.out HD.out)) ((m + k : Nat) : Int) (by omega) (by omega)
      rw [pk_rd64] at u0 u1 u2 u3
      rw [rdE65] at z0 z1 z2 z3
      have EQ : gE run k = eP (x0.getD (m + k) z64) := by rw [← hog.1, RO.out.flat, gE_map _ _ hlt4]
      rw [EQ] at z0 z1 z2 z3 zz
      simp only [Int.toNat_natCast] at u0 u1 u2 u3 z0 z1 z2 z3
      unfold eP at z0 z1 z2 z3 zz
      simp only at z0 z1 z2 z3 zz
      generalize (x0.getD (m + k) z64).f0 = g0v at u0 z0 zz
      generalize (x0.getD (m + k) z64).f1 = g1v at u1 z1
      generalize (x0.getD (m + k) z64).f2 = g2v at u2 z2
      generalize (x0.getD (m + k) z64).f3 = g3v at u3 z3
      have HKL := asd hk
      have pl : ((0 : Int) < (run.length : Int)) = True := eq_true (by omega)
      have pln : (0 < run.length) = True := eq_true (by omega)
      clear hk hog hlt4 hae hae2 ez EQ hdB4 hCB4
      iterate 4 go_step
      iterate 32 (first | go_values | go_skip | go_step | go_upon)
      refine start_ (n := 36) (S := fun w' => w'.cell? (ad2.add i) = some (.slice (some ade) run.length dB4) ∧ w'.cell? (ade.add (k * 4)) = some (.int .i64 g0v) ∧ w'.cell? { block := (ade.add (k * 4)).block, off := (ade.add (k * 4)).off + 1 } = some (.int .i64 g1v) ∧ w'.cell? { block := (ade.add (k * 4)).block, off := (ade.add (k * 4)).off + 2 } = some (.int .i64 g2v) ∧ w'.cell? { block := (ade.add (k * 4)).block, off := (ade.add (k * 4)).off + 3 } = some (.int .i64 g3v) ∧ w'.cell? ade = some (.int .i64 g0v) ∧ w'.cell? (adl.add ((m + k) * 4)) = some (.int .i64 g0v) ∧ w'.cell? { block := (adl.add ((m + k) * 4)).block, off := (adl.add ((m + k) * 4)).off + 1 } = some (.int .i64 g1v) ∧ w'.cell? { block := (adl.add ((m + k) * 4)).block, off := (adl.add ((m + k) * 4)).off + 2 } = some (.int .i64 g2v) ∧ w'.cell? { block := (adl.add ((m + k) * 4)).block, off := (adl.add ((m + k) * 4)).off + 3 } = some (.int .i64 g3v)) (ds := []) #[false, false, false, false, false, false, false, false, false, false, false, false, false, false, false, false, false, false, false, false, false, false, false, false, false, false, false, false, false, false, false, false, false, false, false, false] (by kernel_rfl) rfl rfl ⟨y4, z0, z1, z2, z3, zz, u0, u1, u2, u3⟩ (fun hHeld => ?_); refine with_tabW prn13_tab prn13_bits (fun HT_ HW_ => ?_)
      clear y4 z0 z1 z2 z3 zz u0 u1 u2 u3
      refine pure_ (i := 0) (N := (some 61)) (v := ?_) (a' := ?_) #[true, false, false, false, false, false, false, false, false, false, false, false, false, false, false, false, false, false, false, false, false, false, false, false, false, false, false, false, false, false, false, false, false, false, false, false] rfl rfl (any_of HT_.out (by kernel_rfl)) (fun _ _ _ h => h) (Or.inl ⟨by rfl, ?_⟩) ?_ ?_
      rotate_left
      ·intro w'
       go_simp
       with_reducible rfl
      rotate_left
      ·simp only [Act.put, sB, i64_w, i32_w]
       rfl
      refine pure_ (i := 1) (N := (some 62)) (v := ?_) (a' := ?_) #[true, true, false, false, false, false, false, false, false, false, false, false, false, false, false, false, false, false, false, false, false, false, false, false, false, false, false, false, false, false, false, false, false, false, false, false] rfl rfl (any_of HT_.out (by kernel_rfl)) (fun _ _ _ h => h) (Or.inl ⟨by rfl, ?_⟩) ?_ ?_
      rotate_left
      ·intro w'
       go_simp
       with_reducible rfl
      rotate_left
      ·simp only [Act.put, sB, i64_w, i32_w]
       rfl
      refine pure_ (i := 2) (N := (some 63)) (v := ?_) (a' := ?_) #[true, true, true, false, false, false, false, false, false, false, false, false, false, false, false, false, false, false, false, false, false, false, false, false, false, false, false, false, false, false, false, false, false, false, false, false] rfl rfl (any_of HT_.out (by kernel_rfl)) (fun _ _ _ h => h) (Or.inl ⟨by rfl, ?_⟩) ?_ ?_
      rotate_left
      ·intro w'
       go_simp
       with_reducible rfl
      rotate_left
      ·simp only [Act.put, sB, i64_w, i32_w]
       rfl
      refine pure_ (i := 3) (N := (some 64)) (v := ?_) (a' := ?_) #[true, true, true, true, false, false, false, false, false, false, false, false, false, false, false, false, false, false, false, false, false, false, false, false, false, false, false, false, false, false, false, false, false, false, false, false] rfl rfl (any_of HT_.out (by kernel_rfl)) (fun _ _ _ h => h) (Or.inl ⟨by rfl, ?_⟩) ?_ ?_
      rotate_left
      ·intro w'
       go_simp
       with_reducible rfl
      rotate_left
      ·simp only [Act.put, sB, i64_w, i32_w]
       rfl
      refine pure_ (i := 4) (N := (some 65)) (v := ?_) (a' := ?_) #[true, true, true, true, true, false, false, false, false, false, false, false, false, false, false, false, false, false, false, false, false, false, false, false, false, false, false, false, false, false, false, false, false, false, false, false] rfl rfl (any_of HT_.out (by kernel_rfl)) (fun _ _ _ h => h) (Or.inl ⟨by rfl, ?_⟩) ?_ ?_
      rotate_left
      ·intro w'
       go_simp
       with_reducible rfl
      rotate_left
      ·simp only [Act.put, sB, i64_w, i32_w]
       rfl
      refine pure_ (i := 5) (N := (some 66)) (v := ?_) (a' := ?_) #[true, true, true, true, true, true, false, false, false, false, false, false, false, false, false, false, false, false, false, false, false, false, false, false, false, false, false, false, false, false, false, false, false, false, false, false] rfl rfl (any_of HT_.out (by kernel_rfl)) (fun _ _ _ h => h) (Or.inl ⟨by rfl, ?_⟩) ?_ ?_
      rotate_left
      ·intro w'
       go_simp
       with_reducible rfl
      rotate_left
      ·simp only [Act.put, sB, i64_w, i32_w]
       rfl
      refine pure_ (i := 6) (N := (some 67)) (v := ?_) (a' := ?_) #[true, true, true, true, true, true, true, false, false, false, false, false, false, false, false, false, false, false, false, false, false, false, false, false, false, false, false, false, false, false, false, false, false, false, false, false] rfl rfl (any_of HT_.out (by kernel_rfl)) (fun _ _ _ h => h) (Or.inl ⟨by rfl, ?_⟩) ?_ ?_
      rotate_left
      ·intro w'
       go_simp
       with_reducible rfl
      rotate_left
      ·simp only [Act.put, sB, i64_w, i32_w]
       rfl
      refine pure_ (i := 7) (N := (some 68)) (v := ?_) (a' := ?_) #[true, true, true, true, true, true, true, true, false, false, false, false, false, false, false, false, false, false, false, false, false, false, false, false, false, false, false, false, false, false, false, false, false, false, false, false] rfl rfl (any_of HT_.out (by kernel_rfl)) (fun _ _ _ h => h) (Or.inl ⟨by rfl, ?_⟩) ?_ ?_
      rotate_left
      ·intro w'
       go_simp
       with_reducible rfl
      rotate_left
      ·simp only [Act.put, sB, i64_w, i32_w]
       rfl
      refine take_ (i := 8) (N := (some 69)) (v := ?_) (a' := ?_) #[true, true, true, true, true, true, true, true, true, false, false, false, false, false, false, false, false, false, false, false, false, false, false, false, false, false, false, false, false, false, false, false, false, false, false, false] rfl rfl (take_ofW HT_.out HW_.out (by kernel_rfl)) (fun _ _ _ h => h) (Or.inl ⟨by rfl, ?_⟩) hHeld ?_ ?_
      rotate_left
      ·rintro w' ⟨s0, s1, s2, s3, s4, s5, s6, s7, s8, s9⟩
       go_simp
       with_reducible rfl
      rotate_left
      ·simp only [Act.put, sB, i64_w, i32_w]
       rfl
      refine pure_ (i := 9) (N := (some 70)) (v := ?_) (a' := ?_) #[true, true, true, true, true, true, true, true, true, true, false, false, false, false, false, false, false, false, false, false, false, false, false, false, false, false, false, false, false, false, false, false, false, false, false, false] rfl rfl (any_of HT_.out (by kernel_rfl)) (fun _ _ _ h => h) (Or.inl ⟨by rfl, ?_⟩) ?_ ?_
      rotate_left
      ·intro w'
       go_simp
       with_reducible rfl
      rotate_left
      ·simp only [Act.put, sB, i64_w, i32_w]
       rfl
      refine pure_ (i := 10) (N := (some 71)) (v := ?_) (a' := ?_) #[true, true, true, true, true, true, true, true, true, true, true, false, false, false, false, false, false, false, false, false, false, false, false, false, false, false, false, false, false, false, false, false, false, false, false, false] rfl rfl (any_of HT_.out (by kernel_rfl)) (fun _ _ _ h => h) (Or.inl ⟨by rfl, ?_⟩) ?_ ?_
      rotate_left
      ·intro w'
       go_simp
       with_reducible rfl
      rotate_left
      ·simp only [Act.put, sB, i64_w, i32_w]
       rfl
      refine take_ (i := 11) (N := (some 72)) (v := ?_) (a' := ?_) #[true, true, true, true, true, true, true, true, true, true, true, true, false, false, false, false, false, false, false, false, false, false, false, false, false, false, false, false, false, false, false, false, false, false, false, false] rfl rfl (take_ofW HT_.out HW_.out (by kernel_rfl)) (fun _ _ _ h => h) (Or.inl ⟨by rfl, ?_⟩) hHeld ?_ ?_
      rotate_left
      ·rintro w' ⟨s0, s1, s2, s3, s4, s5, s6, s7, s8, s9⟩
       go_simp
       with_reducible rfl
      rotate_left
      ·simp only [Act.put, sB, i64_w, i32_w]
       rfl
      refine pure_ (i := 12) (N := (some 73)) (v := ?_) (a' := ?_) #[true, true, true, true, true, true, true, true, true, true, true, true, true, false, false, false, false, false, false, false, false, false, false, false, false, false, false, false, false, false, false, false, false, false, false, false] rfl rfl (any_of HT_.out (by kernel_rfl)) (fun _ _ _ h => h) (Or.inl ⟨by rfl, ?_⟩) ?_ ?_
      rotate_left
      ·intro w'
       go_simp
       with_reducible rfl
      rotate_left
      ·simp only [Act.put, sB, i64_w, i32_w]
       rfl
      refine pure_ (i := 13) (N := (some 74)) (v := ?_) (a' := ?_) #[true, true, true, true, true, true, true, true, true, true, true, true, true, true, false, false, false, false, false, false, false, false, false, false, false, false, false, false, false, false, false, false, false, false, false, false] rfl rfl (any_of HT_.out (by kernel_rfl)) (fun _ _ _ h => h) (Or.inl ⟨by rfl, ?_⟩) ?_ ?_
      rotate_left
      ·intro w'
       go_simp
       with_reducible rfl
      rotate_left
      ·simp only [Act.put, sB, i64_w, i32_w]
       rfl
      refine pure_ (i := 14) (N := (some 75)) (v := ?_) (a' := ?_) #[true, true, true, true, true, true, true, true, true, true, true, true, true, true, true, false, false, false, false, false, false, false, false, false, false, false, false, false, false, false, false, false, false, false, false, false] rfl rfl (any_of HT_.out (by kernel_rfl)) (fun _ _ _ h => h) (Or.inl ⟨by rfl, ?_⟩) ?_ ?_
      rotate_left
      ·intro w'
       go_simp
       with_reducible rfl
      rotate_left
      ·simp only [Act.put, sB, i64_w, i32_w]
       rfl
      refine take_ (i := 15) (N := (some 76)) (v := ?_) (a' := ?_) #[true, true, true, true, true, true, true, true, true, true, true, true, true, true, true, true, false, false, false, false, false, false, false, false, false, false, false, false, false, false, false, false, false, false, false, false] rfl rfl (take_ofW HT_.out HW_.out (by kernel_rfl)) (fun _ _ _ h => h) (Or.inl ⟨by rfl, ?_⟩) hHeld ?_ ?_
      rotate_left
      ·rintro w' ⟨s0, s1, s2, s3, s4, s5, s6, s7, s8, s9⟩
       go_simp
       with_reducible rfl
      rotate_left
      ·simp only [Act.put, sB, i64_w, i32_w]
       rfl
      refine pure_ (i := 16) (N := (some 77)) (v := ?_) (a' := ?_) #[true, true, true, true, true, true, true, true, true, true, true, true, true, true, true, true, true, false, false, false, false, false, false, false, false, false, false, false, false, false, false, false, false, false, false, false] rfl rfl (any_of HT_.out (by kernel_rfl)) (fun _ _ _ h => h) (Or.inl ⟨by rfl, ?_⟩) ?_ ?_
      rotate_left
      ·intro w'
       go_simp
       with_reducible rfl
      rotate_left
      ·simp only [Act.put, sB, i64_w, i32_w]
       rfl
      refine pure_ (i := 17) (N := (some 78)) (v := ?_) (a' := ?_) #[true, true, true, true, true, true, true, true, true, true, true, true, true, true, true, true, true, true, false, false, false, false, false, false, false, false, false, false, false, false, false, false, false, false, false, false] rfl rfl (any_of HT_.out (by kernel_rfl)) (fun _ _ _ h => h) (Or.inl ⟨by rfl, ?_⟩) ?_ ?_
      rotate_left
      ·intro w'
       go_simp
       with_reducible rfl
      rotate_left
      ·simp only [Act.put, sB, i64_w, i32_w]
       rfl
      refine pure_ (i := 18) (N := (some 79)) (v := ?_) (a' := ?_) #[true, true, true, true, true, true, true, true, true, true, true, true, true, true, true, true, true, true, true, false, false, false, false, false, false, false, false, false, false, false, false, false, false, false, false, false] rfl rfl (any_of HT_.out (by kernel_rfl)) (fun _ _ _ h => h) (Or.inl ⟨by rfl, ?_⟩) ?_ ?_
      rotate_left
      ·intro w'
       go_simp
       with_reducible rfl
      rotate_left
      ·simp only [Act.put, sB, i64_w, i32_w]
       rfl
      refine pure_ (i := 19) (N := (some 80)) (v := ?_) (a' := ?_) #[true, true, true, true, true, true, true, true, true, true, true, true, true, true, true, true, true, true, true, true, false, false, false, false, false, false, false, false, false, false, false, false, false, false, false, false] rfl rfl (any_of HT_.out (by kernel_rfl)) (fun _ _ _ h => h) (Or.inl ⟨by rfl, ?_⟩) ?_ ?_
      rotate_left
      ·intro w'
       go_simp
       with_reducible rfl
      rotate_left
      ·simp only [Act.put, sB, i64_w, i32_w]
       rfl
      refine pure_ (i := 20) (N := (some 81)) (v := ?_) (a' := ?_) #[true, true, true, true, true, true, true, true, true, true, true, true, true, true, true, true, true, true, true, true, true, false, false, false, false, false, false, false, false, false, false, false, false, false, false, false] rfl rfl (any_of HT_.out (by kernel_rfl)) (fun _ _ _ h => h) (Or.inl ⟨by rfl, ?_⟩) ?_ ?_
      rotate_left
      ·intro w'
       go_simp
       with_reducible rfl
      rotate_left
      ·simp only [Act.put, sB, i64_w, i32_w]
       rfl
      refine pure_ (i := 21) (N := (some 82)) (v := ?_) (a' := ?_) #[true, true, true, true, true, true, true, true, true, true, true, true, true, true, true, true, true, true, true, true, true, true, false, false, false, false, false, false, false, false, false, false, false, false, false, false] rfl rfl (any_of HT_.out (by kernel_rfl)) (fun _ _ _ h => h) (Or.inl ⟨by rfl, ?_⟩) ?_ ?_
      rotate_left
      ·intro w'
       go_simp
       with_reducible rfl
      rotate_left
      ·simp only [Act.put, sB, i64_w, i32_w]
       rfl
      refine take_ (i := 22) (N := (some 83)) (v := ?_) (a' := ?_) #[true, true, true, true, true, true, true, true, true, true, true, true, true, true, true, true, true, true, true, true, true, true, true, false, false, false, false, false, false, false, false, false, false, false, false, false] rfl rfl (take_ofW HT_.out HW_.out (by kernel_rfl)) (fun _ _ _ h => h) (Or.inl ⟨by rfl, ?_⟩) hHeld ?_ ?_
      rotate_left
      ·rintro w' ⟨s0, s1, s2, s3, s4, s5, s6, s7, s8, s9⟩
       go_simp
       with_reducible rfl
      rotate_left
      ·simp only [Act.put, sB, i64_w, i32_w]
       rfl
      refine pure_ (i := 23) (N := (some 84)) (v := ?_) (a' := ?_) #[true, true, true, true, true, true, true, true, true, true, true, true, true, true, true, true, true, true, true, true, true, true, true, true, false, false, false, false, false, false, false, false, false, false, false, false] rfl rfl (any_of HT_.out (by kernel_rfl)) (fun _ _ _ h => h) (Or.inl ⟨by rfl, ?_⟩) ?_ ?_
      rotate_left
      ·intro w'
       go_simp
       with_reducible rfl
      rotate_left
      ·simp only [Act.put, sB, i64_w, i32_w]
       rfl
      refine pure_ (i := 24) (N := (some 85)) (v := ?_) (a' := ?_) #[true, true, true, true, true, true, true, true, true, true, true, true, true, true, true, true, true, true, true, true, true, true, true, true, true, false, false, false, false, false, false, false, false, false, false, false] rfl rfl (any_of HT_.out (by kernel_rfl)) (fun _ _ _ h => h) (Or.inl ⟨by rfl, ?_⟩) ?_ ?_
      rotate_left
      ·intro w'
       go_simp
       with_reducible rfl
      rotate_left
      ·simp only [Act.put, sB, i64_w, i32_w]
       rfl
      refine pure_ (i := 25) (N := (some 86)) (v := ?_) (a' := ?_) #[true, true, true, true, true, true, true, true, true, true, true, true, true, true, true, true, true, true, true, true, true, true, true, true, true, true, false, false, false, false, false, false, false, false, false, false] rfl rfl (any_of HT_.out (by kernel_rfl)) (fun _ _ _ h => h) (Or.inl ⟨by rfl, ?_⟩) ?_ ?_
      rotate_left
      ·intro w'
       go_simp
       with_reducible rfl
      rotate_left
      ·simp only [Act.put, sB, i64_w, i32_w]
       rfl
      refine take_ (i := 26) (N := (some 87)) (v := ?_) (a' := ?_) #[true, true, true, true, true, true, true, true, true, true, true, true, true, true, true, true, true, true, true, true, true, true, true, true, true, true, true, false, false, false, false, false, false, false, false, false] rfl rfl (take_ofW HT_.out HW_.out (by kernel_rfl)) (fun _ _ _ h => h) (Or.inl ⟨by rfl, ?_⟩) hHeld ?_ ?_
      rotate_left
      ·rintro w' ⟨s0, s1, s2, s3, s4, s5, s6, s7, s8, s9⟩
       go_simp
       with_reducible rfl
      rotate_left
      ·simp only [Act.put, sB, i64_w, i32_w]
       rfl
      refine pure_ (i := 27) (N := (some 88)) (v := ?_) (a' := ?_) #[true, true, true, true, true, true, true, true, true, true, true, true, true, true, true, true, true, true, true, true, true, true, true, true, true, true, true, true, false, false, false, false, false, false, false, false] rfl rfl (any_of HT_.out (by kernel_rfl)) (fun _ _ _ h => h) (Or.inl ⟨by rfl, ?_⟩) ?_ ?_
      rotate_left
      ·intro w'
       go_simp
       with_reducible rfl
      rotate_left
      ·simp only [Act.put, sB, i64_w, i32_w]
       rfl
      refine pure_ (i := 28) (N := (some 89)) (v := ?_) (a' := ?_) #[true, true, true, true, true, true, true, true, true, true, true, true, true, true, true, true, true, true, true, true, true, true, true, true, true, true, true, true, true, false, false, false, false, false, false, false] rfl rfl (any_of HT_.out (by kernel_rfl)) (fun _ _ _ h => h) (Or.inl ⟨by rfl, ?_⟩) ?_ ?_
      rotate_left
      ·intro w'
       go_simp
       with_reducible rfl
      rotate_left
      ·simp only [Act.put, sB, i64_w, i32_w]
       rfl
      refine pure_ (i := 29) (N := (some 90)) (v := ?_) (a' := ?_) #[true, true, true, true, true, true, true, true, true, true, true, true, true, true, true, true, true, true, true, true, true, true, true, true, true, true, true, true, true, true, false, false, false, false, false, false] rfl rfl (any_of HT_.out (by kernel_rfl)) (fun _ _ _ h => h) (Or.inl ⟨by rfl, ?_⟩) ?_ ?_
      rotate_left
      ·intro w'
       go_simp
       with_reducible rfl
      rotate_left
      ·simp only [Act.put, sB, i64_w, i32_w]
       rfl
      refine take_ (i := 30) (N := (some 91)) (v := ?_) (a' := ?_) #[true, true, true, true, true, true, true, true, true, true, true, true, true, true, true, true, true, true, true, true, true, true, true, true, true, true, true, true, true, true, true, false, false, false, false, false] rfl rfl (take_ofW HT_.out HW_.out (by kernel_rfl)) (fun _ _ _ h => h) (Or.inl ⟨by rfl, ?_⟩) hHeld ?_ ?_
      rotate_left
      ·rintro w' ⟨s0, s1, s2, s3, s4, s5, s6, s7, s8, s9⟩
       go_simp
       with_reducible rfl
      rotate_left
      ·simp only [Act.put, sB, i64_w, i32_w]
       rfl
      refine pure_ (i := 31) (N := (some 92)) (v := ?_) (a' := ?_) #[true, true, true, true, true, true, true, true, true, true, true, true, true, true, true, true, true, true, true, true, true, true, true, true, true, true, true, true, true, true, true, true, false, false, false, false] rfl rfl (any_of HT_.out (by kernel_rfl)) (fun _ _ _ h => h) (Or.inl ⟨by rfl, ?_⟩) ?_ ?_
      rotate_left
      ·intro w'
       go_simp
       with_reducible rfl
      rotate_left
      ·simp only [Act.put, sB, i64_w, i32_w]
       rfl
      refine pure_ (i := 32) (N := (some 93)) (v := ?_) (a' := ?_) #[true, true, true, true, true, true, true, true, true, true, true, true, true, true, true, true, true, true, true, true, true, true, true, true, true, true, true, true, true, true, true, true, true, false, false, false] rfl rfl (any_of HT_.out (by kernel_rfl)) (fun _ _ _ h => h) (Or.inl ⟨by rfl, ?_⟩) ?_ ?_
      rotate_left
      ·intro w'
       go_simp
       with_reducible rfl
      rotate_left
      ·simp only [Act.put, sB, i64_w, i32_w]
       rfl
      refine take_ (i := 33) (N := (some 94)) (v := ?_) (a' := ?_) #[true, true, true, true, true, true, true, true, true, true, true, true, true, true, true, true, true, true, true, true, true, true, true, true, true, true, true, true, true, true, true, true, true, true, false, false] rfl rfl (take_ofW HT_.out HW_.out (by kernel_rfl)) (fun _ _ _ h => h) (Or.inl ⟨by rfl, ?_⟩) hHeld ?_ ?_
      rotate_left
      ·rintro w' ⟨s0, s1, s2, s3, s4, s5, s6, s7, s8, s9⟩
       go_simp
       with_reducible rfl
      rotate_left
      ·simp only [Act.put, sB, i64_w, i32_w]
       rfl
      refine pure_ (i := 34) (N := (some 95)) (v := ?_) (a' := ?_) #[true, true, true, true, true, true, true, true, true, true, true, true, true, true, true, true, true, true, true, true, true, true, true, true, true, true, true, true, true, true, true, true, true, true, true, false] rfl rfl (any_of HT_.out (by kernel_rfl)) (fun _ _ _ h => h) (Or.inl ⟨by rfl, ?_⟩) ?_ ?_
      rotate_left
      ·intro w'
       go_simp
       with_reducible rfl
      rotate_left
      ·simp only [Act.put, sB, i64_w, i32_w]
       rfl
      refine pure_ (i := 35) (N := (some 96)) (v := ?_) (a' := ?_) #[true, true, true, true, true, true, true, true, true, true, true, true, true, true, true, true, true, true, true, true, true, true, true, true, true, true, true, true, true, true, true, true, true, true, true, true] rfl rfl (any_of HT_.out (by kernel_rfl)) (fun _ _ _ h => h) (Or.inl ⟨by rfl, ?_⟩) ?_ ?_
      rotate_left
      ·intro w'
       go_simp
       with_reducible rfl
      rotate_left
      ·simp only [Act.put, sB, i64_w, i32_w]
       rfl
      refine done_ (done_of HT_.out (by kernel_rfl)) ?_
      try go_wp2
      all_goals go_roundw
      all_goals first
       | exact ⟨k + 1, by go_num, by go_num, ⟨HKL.out⟩, ⟨below_drew1 HD.out⟩⟩
       | (have := HKL.out; simp [intOf]; omega)
     ·have r1 : decide ((k : Int) < (run.length : Int)) = false := decide_eq_false (by omega)
      have r2 : decide (k < run.length) = false := decide_eq_false hk
      have KE : Aside0 (((m + k : Nat) : Int) = ((offR out (i + 1) : Nat) : Int)) := ⟨by rw [OS.out, show k = run.length by have := HK.out; omega]⟩
      have HBf := asd HD.out
      clear hk hdB4 hCB4 hae
      go_wp2
      go_roundw
      case rel => exact ⟨i + 1, by first | rw [← KE.out] | (rw [← KE.out]; push_cast; rfl) | (rw [← KE.out]; simp), by go_num, ⟨HLT.out⟩, HBf⟩
      case measure => simp [intOf]; omega
   ·obtain ⟨j, hj⟩ : ∃ j, j + 1 = i := ⟨i - 1, by omega⟩
    have g0 : decide ((i : Int) > 0) = true := decide_eq_true (by omega)
    have g1 : decide (0 < (i : Int)) = true := g0
    have g2 : decide (0 < i) = true := decide_eq_true (by omega)
    have e9 : (i : Int) - 1 = (j : Int) := by omega
    have AJ := HAD.out j hj
    rw [hj] at AJ
    obtain ⟨ad3, B3, dB3, hae, y3, hdB3, hCB3⟩ := at_L10 hc2 (j : Int) (by omega) (by have := HX.out; omega)
    obtain rfl := Option.some.inj hae
    rw [rdL10] at y3 hdB3 hCB3
    simp only [Int.toNat_natCast] at y3
    have hne3 := RO.out.ne j (by have := HX.out; omega)
    obtain ⟨adc, rfl, z3, _⟩ := at_T65 hCB3 0 (by omega) (by omega)
    have ez : adc.add ((0 : Int).toNat * 4) = adc := by cases adc; rfl
    rw [ez, show rd_T65 (out.getD j []) 0 = gE (out.getD j []) 0 from rfl] at z3
    have pl3 : ((0 : Int) < ((out.getD j []).length : Int)) = True := eq_true (by omega)
    have pl3n : (0 < (out.getD j []).length) = True := eq_true (by omega)
    have pln0 : (0 < (out.getD i []).length) = True := eq_true (by have := NE.out; omega)
    have pj : ((j : Int) < (out.length : Int)) = True := eq_true (by have := HLT.out; omega)
    have wsub : wrap64 ((i : Int) - 1) = (j : Int) := by unfold wrap64; omega
    generalize (gE (out.getD j []) 0).f0 = tj at z3 AJ
    generalize hrun : out.getD i [] = run at y1 z0 b0 b0n pl pln0 RN OG OS CB NE RL AJ
    generalize hm : offR out i = m at OG OS ML ⊢
    have REQ : Aside0 (out.getD i [] = run) := ⟨hrun⟩
    have bn : ((gE run 0).f0 == tj) = false := beq_eq_false_iff_ne.2 AJ
    generalize out.getD j [] = rj at y3 pl3 pl3n hCB3 hdB3 hne3
    clear HAD AJ hdB3 hCB3 hne3 ez hae hi0 hrun hm hj
    go_wp2
    go_region
    go_wp2
    have HB3 := asd (below_drew1 HB.out)
    have SB3 := asd (below_size HB3.out)
    clear z0 y1 y3 z3 e9 wsub bn pl3 pl3n pln0 pj
    generalize wr.drew = wd at HB3 SB3 ⊢
    go_loopw [4, 6] (fun v4 v6 wq => ∃ k : Nat, v4 = .int .i64 ((m + k : Nat) : Int) ∧ v6 = .int .i64 k ∧ Aside0 (k ≤ run.length) ∧ Aside0 (Below w2.heap.size w2 wq)) (fun _ v => fun _ => 300 - (intOf v).toNat)
    case atStart => exact ⟨0, rfl, rfl, ⟨Nat.zero_le _⟩, HB3⟩
    case round =>
     rename World => wq
     obtain ⟨k, rfl, rfl, HK, HD⟩ := hrel
     have k99 : (k : Int) ≤ 200 := by have := HK.out; have := RL.out; omega
     have m99 : (m : Int) ≤ 200 := by have := ML.out; omega
     obtain ⟨ad4, B4, dB4, hae, y4, hdB4, hCB4⟩ := at_L10 (Kd.C_below C2.out HD.out) (i : Int) (by have := HLT.out; omega) (by have := HLT.out; omega)
     obtain rfl := Option.some.inj hae
     rw [rdL10, REQ.out] at y4 hdB4 hCB4
     simp only [Int.toNat_natCast] at y4
     by_cases hk : k < run.length
     ·have r0 : ((k : Int) < (run.length : Int)) = True := eq_true (by omega)
      have r1 : decide ((k : Int) < (run.length : Int)) = true := decide_eq_true (by omega)
      have r2 : decide (k < run.length) = true := decide_eq_true hk
      have hog := OG.out k hk
      have hlt4 : m + k < x0.length := by have := FL.out; omega
      have q0x : ((m : Int) + (k : Int) < (x0.length : Int)) = True := eq_true (by omega)
      have q1x : decide ((m : Int) + (k : Int) ≥ (x0.length : Int)) = false := decide_eq_false (by omega)
      have q2x : decide ((x0.length : Int) ≤ (m : Int) + (k : Int)) = false := q1x
      have q3x : (0 ≤ (m : Int) + (k : Int)) = True := eq_true (by omega)
      have q4x : ((m : Int) + (k : Int)).toNat = m + k := by omega
      obtain ⟨ade, rfl, z0, z1, z2, z3⟩ := at_T65 hCB4 (k : Int) (by omega) (by omega)
      obtain ⟨adf, hae2, zz, _⟩ := at_T65 hCB4 0 (by omega) (by omega)
      obtain rfl := Option.some.inj hae2
      have ez : ade.add ((0 : Int).toNat * 4) = ade := by cases ade; rfl
      rw [ez, show rd_T65 run 0 = gE run 0 from rfl, ← RN.out k hk] at zz
      obtain ⟨adl, rfl, u0, u1, u2, u3⟩ := at_T64 (Kd.C_below H0.out (below_step HB2.out HD.out)) ((m + k : Nat) : Int) (by omega) (by omega)
      rw [pk_rd64] at u0 u1 u2 u3
      rw [rdE65] at z0 z1 z2 z3
      have EQ : gE run k = eP (x0.getD (m + k) z64) := by rw [← hog.1, RO.out.flat, gE_map _ _ hlt4]
      rw [EQ] at z0 z1 z2 z3 zz
      simp only [Int.toNat_natCast] at u0 u1 u2 u3 z0 z1 z2 z3
      unfold eP at z0 z1 z2 z3 zz
      simp only at z0 z1 z2 z3 zz
      generalize (x0.getD (m + k) z64).f0 = g0v at u0 z0 zz
      generalize (x0.getD (m + k) z64).f1 = g1v at u1 z1
      generalize (x0.getD (m + k) z64).f2 = g2v at u2 z2
      generalize (x0.getD (m + k) z64).f3 = g3v at u3 z3
      have HKL := asd hk
      have pl : ((0 : Int) < (run.length : Int)) = True := eq_true (by omega)
      have pln : (0 < run.length) = True := eq_true (by omega)
      clear hk hog hlt4 hae hae2 ez EQ hdB4 hCB4
      iterate 4 go_step
      iterate 32 (first | go_values | go_skip | go_step | go_upon)
      refine start_ (n := 36) (S := fun w' => w'.cell? (ad2.add i) = some (.slice (some ade) run.length dB4) ∧ w'.cell? (ade.add (k * 4)) = some (.int .i64 g0v) ∧ w'.cell? { block := (ade.add (k * 4)).block, off := (ade.add (k * 4)).off + 1 } = some (.int .i64 g1v) ∧ w'.cell? { block := (ade.add (k * 4)).block, off := (ade.add (k * 4)).off + 2 } = some (.int .i64 g2v) ∧ w'.cell? { block := (ade.add (k * 4)).block, off := (ade.add (k * 4)).off + 3 } = some (.int .i64 g3v) ∧ w'.cell? ade = some (.int .i64 g0v) ∧ w'.cell? (adl.add ((m + k) * 4)) = some (.int .i64 g0v) ∧ w'.cell? { block := (adl.add ((m + k) * 4)).block, off := (adl.add ((m + k) * 4)).off + 1 } = some (.int .i64 g1v) ∧ w'.cell? { block := (adl.add ((m + k) * 4)).block, off := (adl.add ((m + k) * 4)).off + 2 } = some (.int .i64 g2v) ∧ w'.cell? { block := (adl.add ((m + k) * 4)).block, off := (adl.add ((m + k) * 4)).off + 3 } = some (.int .i64 g3v)) (ds := []) #[false, false, false, false, false, false, false, false, false, false, false, false, false, false, false, false, false, false, false, false, false, false, false, false, false, false, false, false, false, false, false, false, false, false, false, false] (by kernel_rfl) rfl rfl ⟨y4, z0, z1, z2, z3, zz, u0, u1, u2, u3⟩ (fun hHeld => ?_); refine with_tabW prn13_tab prn13_bits (fun HT_ HW_ => ?_)
      clear y4 z0 z1 z2 z3 zz u0 u1 u2 u3
      refine pure_ (i := 0) (N := (some 61)) (v := ?_) (a' := ?_) #[true, false, false, false, false, false, false, false, false, false, false, false, false, false, false, false, false, false, false, false, false, false, false, false, false, false, false, false, false, false, false, false, false, false, false, false] rfl rfl (any_of HT_.out (by kernel_rfl)) (fun _ _ _ h => h) (Or.inl ⟨by rfl, ?_⟩) ?_ ?_
      rotate_left
      ·intro w'
       go_simp
       with_reducible rfl
      rotate_left
      ·simp only [Act.put, sB, i64_w, i32_w]
       rfl
      refine pure_ (i := 1) (N := (some 62)) (v := ?_) (a' := ?_) #[true, true, false, false, false, false, false, false, false, false, false, false, false, false, false, false, false, false, false, false, false, false, false, false, false, false, false, false, false, false, false, false, false, false, false, false] rfl rfl (any_of HT_.out (by kernel_rfl)) (fun _ _ _ h => h) (Or.inl ⟨by rfl, ?_⟩) ?_ ?_
      rotate_left
      ·intro w'
       go_simp
       with_reducible rfl
      rotate_left
      ·simp only [Act.put, sB, i64_w, i32_w]
       rfl
      refine pure_ (i := 2) (N := (some 63)) (v := ?_) (a' := ?_) #[true, true, true, false, false, false, false, false, false, false, false, false, false, false, false, false, false, false, false, false, false, false, false, false, false, false, false, false, false, false, false, false, false, false, false, false] rfl rfl (any_of HT_.out (by kernel_rfl)) (fun _ _ _ h => h) (Or.inl ⟨by rfl, ?_⟩) ?_ ?_
      rotate_left
      ·intro w'
       go_simp
       with_reducible rfl
      rotate_left
      ·simp only [Act.put, sB, i64_w, i32_w]
       rfl
      refine pure_ (i := 3) (N := (some 64)) (v := ?_) (a' := ?_) #[true, true, true, true, false, false, false, false, false, false, false, false, false, false, false, false, false, false, false, false, false, false, false, false, false, false, false, false, false, false, false, false, false, false, false, false] rfl rfl (any_of HT_.out (by kernel_rfl)) (fun _ _ _ h => h) (Or.inl ⟨by rfl, ?_⟩) ?_ ?_
      rotate_left
      ·intro w'
       go_simp
       with_reducible rfl
      rotate_left
      ·simp only [Act.put, sB, i64_w, i32_w]
       rfl
      refine pure_ (i := 4) (N := (some 65)) (v := ?_) (a' := ?_) #[true, true, true, true, true, false, false, false, false, false, false, false, false, false, false, false, false, false, false, false, false, false, false, false, false, false, false, false, false, false, false, false, false, false, false, false] rfl rfl (any_of HT_.out (by kernel_rfl)) (fun _ _ _ h => h) (Or.inl ⟨by rfl, ?_⟩) ?_ ?_
      rotate_left
      ·intro w'
       go_simp
       with_reducible rfl
      rotate_left
      ·simp only [Act.put, sB, i64_w, i32_w]
       rfl
      refine pure_ (i := 5) (N := (some 66)) (v := ?_) (a' := ?_) #[true, true, true, true, true, true, false, false, false, false, false, false, false, false, false, false, false, false, false, false, false, false, false, false, false, false, false, false, false, false, false, false, false, false, false, false] rfl rfl (any_of HT_.out (by kernel_rfl)) (fun _ _ _ h => h) (Or.inl ⟨by rfl, ?_⟩) ?_ ?_
      rotate_left
      ·intro w'
       go_simp
       with_reducible rfl
      rotate_left
      ·simp only [Act.put, sB, i64_w, i32_w]
       rfl
      refine pure_ (i := 6) (N := (some 67)) (v := ?_) (a' := ?_) #[true, true, true, true, true, true, true, false, false, false, false, false, false, false, false, false, false, false, false, false, false, false, false, false, false, false, false, false, false, false, false, false, false, false, false, false] rfl rfl (any_of HT_.out (by kernel_rfl)) (fun _ _ _ h => h) (Or.inl ⟨by rfl, ?_⟩) ?_ ?_
      rotate_left
      ·intro w'
       go_simp
       with_reducible rfl
      rotate_left
      ·simp only [Act.put, sB, i64_w, i32_w]
       rfl
      refine pure_ (i := 7) (N := (some 68)) (v := ?_) (a' := ?_) #[true, true, true, true, true, true, true, true, false, false, false, false, false, false, false, false, false, false, false, false, false, false, false, false, false, false, false, false, false, false, false, false, false, false, false, false] rfl rfl (any_of HT_.out (by kernel_rfl)) (fun _ _ _ h => h) (Or.inl ⟨by rfl, ?_⟩) ?_ ?_
      rotate_left
      ·intro w'
       go_simp
       with_reducible rfl
      rotate_left
      ·simp only [Act.put, sB, i64_w, i32_w]
       rfl
      refine take_ (i := 8) (N := (some 69)) (v := ?_) (a' := ?_) #[true, true, true, true, true, true, true, true, true, false, false, false, false, false, false, false, false, false, false, false, false, false, false, false, false, false, false, false, false, false, false, false, false, false, false, false] rfl rfl (take_ofW HT_.out HW_.out (by kernel_rfl)) (fun _ _ _ h => h) (Or.inl ⟨by rfl, ?_⟩) hHeld ?_ ?_
      rotate_left
      ·rintro w' ⟨s0, s1, s2, s3, s4, s5, s6, s7, s8, s9⟩
       go_simp
       with_reducible rfl
      rotate_left
      ·simp only [Act.put, sB, i64_w, i32_w]
       rfl
      refine pure_ (i := 9) (N := (some 70)) (v := ?_) (a' := ?_) #[true, true, true, true, true, true, true, true, true, true, false, false, false, false, false, false, false, false, false, false, false, false, false, false, false, false, false, false, false, false, false, false, false, false, false, false] rfl rfl (any_of HT_.out (by kernel_rfl)) (fun _ _ _ h => h) (Or.inl ⟨by rfl, ?_⟩) ?_ ?_
      rotate_left
      ·intro w'
       go_simp
       with_reducible rfl
      rotate_left
      ·simp only [Act.put, sB, i64_w, i32_w]
       rfl
      refine pure_ (i := 10) (N := (some 71)) (v := ?_) (a' := ?_) #[true, true, true, true, true, true, true, true, true, true, true, false, false, false, false, false, false, false, false, false, false, false, false, false, false, false, false, false, false, false, false, false, false, false, false, false] rfl rfl (any_of HT_.out (by kernel_rfl)) (fun _ _ _ h => h) (Or.inl ⟨by rfl, ?_⟩) ?_ ?_
      rotate_left
      ·intro w'
       go_simp
       with_reducible rfl
      rotate_left
      ·simp only [Act.put, sB, i64_w, i32_w]
       rfl
      refine take_ (i := 11) (N := (some 72)) (v := ?_) (a' := ?_) #[true, true, true, true, true, true, true, true, true, true, true, true, false, false, false, false, false, false, false, false, false, false, false, false, false, false, false, false, false, false, false, false, false, false, false, false] rfl rfl (take_ofW HT_.out HW_.out (by kernel_rfl)) (fun _ _ _ h => h) (Or.inl ⟨by rfl, ?_⟩) hHeld ?_ ?_
      rotate_left
      ·rintro w' ⟨s0, s1, s2, s3, s4, s5, s6, s7, s8, s9⟩
       go_simp
       with_reducible rfl
      rotate_left
      ·simp only [Act.put, sB, i64_w, i32_w]
       rfl
      refine pure_ (i := 12) (N := (some 73)) (v := ?_) (a' := ?_) #[true, true, true, true, true, true, true, true, true, true, true, true, true, false, false, false, false, false, false, false, false, false, false, false, false, false, false, false, false, false, false, false, false, false, false, false] rfl rfl (any_of HT_.out (by kernel_rfl)) (fun _ _ _ h => h) (Or.inl ⟨by rfl, ?_⟩) ?_ ?_
      rotate_left
      ·intro w'
       go_simp
       with_reducible rfl
      rotate_left
      ·simp only [Act.put, sB, i64_w, i32_w]
       rfl
      refine pure_ (i := 13) (N := (some 74)) (v := ?_) (a' := ?_) #[true, true, true, true, true, true, true, true, true, true, true, true, true, true, false, false, false, false, false, false, false, false, false, false, false, false, false, false, false, false, false, false, false, false, false, false] rfl rfl (any_of HT_.out (by kernel_rfl)) (fun _ _ _ h => h) (Or.inl ⟨by rfl, ?_⟩) ?_ ?_
      rotate_left
      ·intro w'
       go_simp
       with_reducible rfl
      rotate_left
      ·simp only [Act.put, sB, i64_w, i32_w]
       rfl
      refine pure_ (i := 14) (N := (some 75)) (v := ?_) (a' := ?_) #[true, true, true, true, true, true, true, true, true, true, true, true, true, true, true, false, false, false, false, false, false, false, false, false, false, false, false, false, false, false, false, false, false, false, false, false] rfl rfl (any_of HT_.out (by kernel_rfl)) (fun _ _ _ h => h) (Or.inl ⟨by rfl, ?_⟩) ?_ ?_
      rotate_left
      ·intro w'
       go_simp
       with_reducible rfl
      rotate_left
      ·simp only [Act.put, sB, i64_w, i32_w]
       rfl
      refine take_ (i := 15) (N := (some 76)) (v := ?_) (a' := ?_) #[true, true, true, true, true, true, true, true, true, true, true, true, true, true, true, true, false, false, false, false, false, false, false, false, false, false, false, false, false, false, false, false, false, false, false, false] rfl rfl (take_ofW HT_.out HW_.out (by kernel_rfl)) (fun _ _ _ h => h) (Or.inl ⟨by rfl, ?_⟩) hHeld ?_ ?_
      rotate_left
      ·rintro w' ⟨s0, s1, s2, s3, s4, s5, s6, s7, s8, s9⟩
       go_simp
       with_reducible rfl
      rotate_left
      ·simp only [Act.put, sB, i64_w, i32_w]
       rfl
      refine pure_ (i := 16) (N := (some 77)) (v := ?_) (a' := ?_) #[true, true, true, true, true, true, true, true, true, true, true, true, true, true, true, true, true, false, false, false, false, false, false, false, false, false, false, false, false, false, false, false, false, false, false, false] rfl rfl (any_of HT_.out (by kernel_rfl)) (fun _ _ _ h => h) (Or.inl ⟨by rfl, ?_⟩) ?_ ?_
      rotate_left
      ·intro w'
       go_simp
       with_reducible rfl
      rotate_left
      ·simp only [Act.put, sB, i64_w, i32_w]
       rfl
      refine pure_ (i := 17) (N := (some 78)) (v := ?_) (a' := ?_) #[true, true, true, true, true, true, true, true, true, true, true, true, true, true, true, true, true, true, false, false, false, false, false, false, false, false, false, false, false, false, false, false, false, false, false, false] rfl rfl (any_of HT_.out (by kernel_rfl)) (fun _ _ _ h => h) (Or.inl ⟨by rfl, ?_⟩) ?_ ?_
      rotate_left
      ·intro w'
       go_simp
       with_reducible rfl
      rotate_left
      ·simp only [Act.put, sB, i64_w, i32_w]
       rfl
      refine pure_ (i := 18) (N := (some 79)) (v := ?_) (a' := ?_) #[true, true, true, true, true, true, true, true, true, true, true, true, true, true, true, true, true, true, true, false, false, false, false, false, false, false, false, false, false, false, false, false, false, false, false, false] rfl rfl (any_of HT_.out (by kernel_rfl)) (fun _ _ _ h => h) (Or.inl ⟨by rfl, ?_⟩) ?_ ?_
      rotate_left
      ·intro w'
       go_simp
       with_reducible rfl
      rotate_left
      ·simp only [Act.put, sB, i64_w, i32_w]
       rfl
      refine pure_ (i := 19) (N := (some 80)) (v := ?_) (a' := ?_) #[true, true, true, true, true, true, true, true, true, true, true, true, true, true, true, true, true, true, true, true, false, false, false, false, false, false, false, false, false, false, false, false, false, false, false, false] rfl rfl (any_of HT_.out (by kernel_rfl)) (fun _ _ _ h => h) (Or.inl ⟨by rfl, ?_⟩) ?_ ?_
      rotate_left
      ·intro w'
       go_simp
       with_reducible rfl
      rotate_left
      ·simp only [Act.put, sB, i64_w, i32_w]
       rfl
      refine pure_ (i := 20) (N := (some 81)) (v := ?_) (a' := ?_) #[true, true, true, true, true, true, true, true, true, true, true, true, true, true, true, true, true, true, true, true, true, false, false, false, false, false, false, false, false, false, false, false, false, false, false, false] rfl rfl (any_of HT_.out (by kernel_rfl)) (fun _ _ _ h => h) (Or.inl ⟨by rfl, ?_⟩) ?_ ?_
      rotate_left
      ·intro w'
       go_simp
       with_reducible rfl
      rotate_left
      ·simp only [Act.put, sB, i64_w, i32_w]
       rfl
      refine pure_ (i := 21) (N := (some 82)) (v := ?_) (a' := ?_) #[true, true, true, true, true, true, true, true, true, true, true, true, true, true, true, true, true, true, true, true, true, true, false, false, false, false, false, false, false, false, false, false, false, false, false, false] rfl rfl (any_of HT_.out (by kernel_rfl)) (fun _ _ _ h => h) (Or.inl ⟨by rfl, ?_⟩) ?_ ?_
      rotate_left
      ·intro w'
       go_simp
       with_reducible rfl
      rotate_left
      ·simp only [Act.put, sB, i64_w, i32_w]
       rfl
      refine take_ (i := 22) (N := (some 83)) (v := ?_) (a' := ?_) #[true, true, true, true, true, true, true, true, true, true, true, true, true, true, true, true, true, true, true, true, true, true, true, false, false, false, false, false, false, false, false, false, false, false, false, false] rfl rfl (take_ofW HT_.out HW_.out (by kernel_rfl)) (fun _ _ _ h => h) (Or.inl ⟨by rfl, ?_⟩) hHeld ?_ ?_
      rotate_left
      ·rintro w' ⟨s0, s1, s2, s3, s4, s5, s6, s7, s8, s9⟩
       go_simp
       with_reducible rfl
      rotate_left
      ·simp only [Act.put, sB, i64_w, i32_w]
       rfl
      refine pure_ (i := 23) (N := (some 84)) (v := ?_) (a' := ?_) #[true, true, true, true, true, true, true, true, true, true, true, true, true, true, true, true, true, true, true, true, true, true, true, true, false, false, false, false, false, false, false, false, false, false, false, false] rfl rfl (any_of HT_.out (by kernel_rfl)) (fun _ _ _ h => h) (Or.inl ⟨by rfl, ?_⟩) ?_ ?_
      rotate_left
      ·intro w'
       go_simp
       with_reducible rfl
      rotate_left
      ·simp only [Act.put, sB, i64_w, i32_w]
       rfl
      refine pure_ (i := 24) (N := (some 85)) (v := ?_) (a' := ?_) #[true, true, true, true, true, true, true, true, true, true, true, true, true, true, true, true, true, true, true, true, true, true, true, true, true, false, false, false, false, false, false, false, false, false, false, false] rfl rfl (any_of HT_.out (by kernel_rfl)) (fun _ _ _ h => h) (Or.inl ⟨by rfl, ?_⟩) ?_ ?_
      rotate_left
      ·intro w'
       go_simp
       with_reducible rfl
      rotate_left
      ·simp only [Act.put, sB, i64_w, i32_w]
       rfl
      refine pure_ (i := 25) (N := (some 86)) (v := ?_) (a' := ?_) #[true, true, true, true, true, true, true, true, true, true, true, true, true, true, true, true, true, true, true, true, true, true, true, true, true, true, false, false, false, false, false, false, false, false, false, false] rfl rfl (any_of HT_.out (by kernel_rfl)) (fun _ _ _ h => h) (Or.inl ⟨by rfl, ?_⟩) ?_ ?_
      rotate_left
      ·intro w'
       go_simp
       with_reducible rfl
      rotate_left
      ·simp only [Act.put, sB, i64_w, i32_w]
       rfl
      refine take_ (i := 26) (N := (some 87)) (v := ?_) (a' := ?_) #[true, true, true, true, true, true, true, true, true, true, true, true, true, true, true, true, true, true, true, true, true, true, true, true, true, true, true, false, false, false, false, false, false, false, false, false] rfl rfl (take_ofW HT_.out HW_.out (by kernel_rfl)) (fun _ _ _ h => h) (Or.inl ⟨by rfl, ?_⟩) hHeld ?_ ?_
      rotate_left
      ·rintro w' ⟨s0, s1, s2, s3, s4, s5, s6, s7, s8, s9⟩
       go_simp
       with_reducible rfl
      rotate_left
      ·simp only [Act.put, sB, i64_w, i32_w]
       rfl
      refine pure_ (i := 27) (N := (some 88)) (v := ?_) (a' := ?_) #[true, true, true, true, true, true, true, true, true, true, true, true, true, true, true, true, true, true, true, true, true, true, true, true, true, true, true, true, false, false, false, false, false, false, false, false] rfl rfl (any_of HT_.out (by kernel_rfl)) (fun _ _ _ h => h) (Or.inl ⟨by rfl, ?_⟩) ?_ ?_
      rotate_left
      ·intro w'
       go_simp
       with_reducible rfl
      rotate_left
      ·simp only [Act.put, sB, i64_w, i32_w]
       rfl
      refine pure_ (i := 28) (N := (some 89)) (v := ?_) (a' := ?_) #[true, true, true, true, true, true, true, true, true, true, true, true, true, true, true, true, true, true, true, true, true, true, true, true, true, true, true, true, true, false, false, false, false, false, false, false] rfl rfl (any_of HT_.out (by kernel_rfl)) (fun _ _ _ h => h) (Or.inl ⟨by rfl, ?_⟩) ?_ ?_
      rotate_left
      ·intro w'
       go_simp
       with_reducible rfl
      rotate_left
      ·simp only [Act.put, sB, i64_w, i32_w]
       rfl
      refine pure_ (i := 29) (N := (some 90)) (v := ?_) (a' := ?_) #[true, true, true, true, true, true, true, true, true, true, true, true, true, true, true, true, true, true, true, true, true, true, true, true, true, true, true, true, true, true, false, false, false, false, false, false] rfl rfl (any_of HT_.out (by kernel_rfl)) (fun _ _ _ h => h) (Or.inl ⟨by rfl, ?_⟩) ?_ ?_
      rotate_left
      ·intro w'
       go_simp
       with_reducible rfl
      rotate_left
      ·simp only [Act.put, sB, i64_w, i32_w]
       rfl
      refine take_ (i := 30) (N := (some 91)) (v := ?_) (a' := ?_) #[true, true, true, true, true, true, true, true, true, true, true, true, true, true, true, true, true, true, true, true, true, true, true, true, true, true, true, true, true, true, true, false, false, false, false, false] rfl rfl (take_ofW HT_.out HW_.out (by kernel_rfl)) (fun _ _ _ h => h) (Or.inl ⟨by rfl, ?_⟩) hHeld ?_ ?_
      rotate_left
      ·rintro w' ⟨s0, s1, s2, s3, s4, s5, s6, s7, s8, s9⟩
       go_simp
       with_reducible rfl
      rotate_left
      ·simp only [Act.put, sB, i64_w, i32_w]
       rfl
      refine pure_ (i := 31) (N := (some 92)) (v := ?_) (a' := ?_) #[true, true, true, true, true, true, true, true, true, true, true, true, true, true, true, true, true, true, true, true, true, true, true, true, true, true, true, true, true, true, true, true, false, false, false, false] rfl rfl (any_of HT_.out (by kernel_rfl)) (fun _ _ _ h => h) (Or.inl ⟨by rfl, ?_⟩) ?_ ?_
      rotate_left
      ·intro w'
       go_simp
       with_reducible rfl
      rotate_left
      ·simp only [Act.put, sB, i64_w, i32_w]
       rfl
      refine pure_ (i := 32) (N := (some 93)) (v := ?_) (a' := ?_) #[true, true, true, true, true, true, true, true, true, true, true, true, true, true, true, true, true, true, true, true, true, true, true, true, true, true, true, true, true, true, true, true, true, false, false, false] rfl rfl (any_of HT_.out (by kernel_rfl)) (fun _ _ _ h => h) (Or.inl ⟨by rfl, ?_⟩) ?_ ?_
      rotate_left
      ·intro w'
       go_simp
       with_reducible rfl
      rotate_left
      ·simp only [Act.put, sB, i64_w, i32_w]
       rfl
      refine take_ (i := 33) (N := (some 94)) (v := ?_) (a' := ?_) #[true, true, true, true, true, true, true, true, true, true, true, true, true, true, true, true, true, true, true, true, true, true, true, true, true, true, true, true, true, true, true, true, true, true, false, false] rfl rfl (take_ofW HT_.out HW_.out (by kernel_rfl)) (fun _ _ _ h => h) (Or.inl ⟨by rfl, ?_⟩) hHeld ?_ ?_
      rotate_left
      ·rintro w' ⟨s0, s1, s2, s3, s4, s5, s6, s7, s8, s9⟩
       go_simp
       with_reducible rfl
      rotate_left
      ·simp only [Act.put, sB, i64_w, i32_w]
       rfl
      refine pure_ (i := 34) (N := (some 95)) (v := ?_) (a' := ?_) #[true, true, true, true, true, true, true, true, true, true, true, true, true, true, true, true, true, true, true, true, true, true, true, true, true, true, true, true, true, true, true, true, true, true, true, false] rfl rfl (any_of HT_.out (by kernel_rfl)) (fun _ _ _ h => h) (Or.inl ⟨by rfl, ?_⟩) ?_ ?_
      rotate_left
      ·intro w'
       go_simp
       with_reducible rfl
      rotate_left
      ·simp only [Act.put, sB, i64_w, i32_w]
       rfl
      refine pure_ (i := 35) (N := (some 96)) (v := ?_) (a' := ?_) #[true, true, true, true, true, true, true, true, true, true, true, true, true, true, true, true, true, true, true, true, true, true, true, true, true, true, true, true, true, true, true, true, true, true, true, true] rfl rfl (any_of HT_.out (by kernel_rfl)) (fun _ _ _ h => h) (Or.inl ⟨by rfl, ?_⟩) ?_ ?_
      rotate_left
      ·intro w'
       go_simp
       with_reducible rfl
      rotate_left
      ·simp only [Act.put, sB, i64_w, i32_w]
       rfl
      refine done_ (done_of HT_.out (by kernel_rfl)) ?_
      try go_wp2
      all_goals go_roundw
      all_goals first
       | exact ⟨k + 1, by go_num, by go_num, ⟨HKL.out⟩, ⟨below_drew1 HD.out⟩⟩
       | (have := HKL.out; simp [intOf]; omega)
     ·have r1 : decide ((k : Int) < (run.length : Int)) = false := decide_eq_false (by omega)
      have r2 : decide (k < run.length) = false := decide_eq_false hk
      have KE : Aside0 (((m + k : Nat) : Int) = ((offR out (i + 1) : Nat) : Int)) := ⟨by rw [OS.out, show k = run.length by have := HK.out; omega]⟩
      have HBf := asd HD.out
      clear hk hdB4 hCB4 hae
      go_wp2
      go_roundw
      case rel => exact ⟨i + 1, by first | rw [← KE.out] | (rw [← KE.out]; push_cast; rfl) | (rw [← KE.out]; simp), by go_num, ⟨HLT.out⟩, HBf⟩
      case measure => simp [intOf]; omega
  ·have q1 : decide ((i : Int) < (out.length : Int)) = false := decide_eq_false (by omega)
   have q2 : decide (i < out.length) = false := decide_eq_false hlt
   have OE : ((offR out i : Nat) : Int) = (x0.length : Int) := by
    rw [show i = out.length by have := HX.out; omega, offR_end, FL.out]
   have HB9 := asd (below_step HB2.out HB.out)
   rw [OE]
   clear hlt OE
   go_wp2
   go_ret
   exact ⟨by simp, HB9.out⟩
end Go.Proofs.Ytalimpniimgheaa.Fn
