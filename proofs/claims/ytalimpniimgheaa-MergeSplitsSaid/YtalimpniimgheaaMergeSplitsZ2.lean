/- Part of the proof of MergeSplits: see the last text. (Words laid by the print, as far as they are named here; walks written by a program of this project; plain laws.) -/
import Derived.Test.YtalimpniimgheaaMergeSplitsZ1
namespace Go.Proofs.Ytalimpniimgheaa.Fn
open Go.RowKit Go.Proofs.YtalimpniimgheaaW.PrintWords Go.Proofs.YtalimpniimgheaaW.PrintLast Go.Proofs.YtalimpniimgheaaW.PrintMore
set_option linter.unusedVariables false
set_option linter.unusedSimpArgs false
theorem alloc_size (w : World) (o : Obj) : (w.alloc o).heap.size = w.heap.size + 1 := by unfold World.alloc; exact Array.size_push ..
theorem C_two {w : World} {g t : Nat} {a b : Int} (h : w.heap[g]? = some (.cells #[.int .i64 a, .int .i64 0, .int .i64 0, .int .i64 0, .int .i64 b, .int .i64 0, .int .i64 0, .int .i64 0] t (0, 0))) : Kd.C k65 w (some ⟨g, 0, none⟩) 2 [(⟨a, 0, 0, 0⟩ : S65), ⟨b, 0, 0, 0⟩] := by
 refine ⟨rfl, by simp, fun _ => ⟨_, rfl, ?_⟩⟩
 intro j p hp
 match j, hp with
 | 0, hp =>
  cases hp
  refine ⟨_, rfl, k65_mk w ⟨a, 0, 0, 0⟩, fun i u hu => ?_⟩
  have h2 := blk_cell h i
  rw [add_plain, show 0 * k65.sz + i = i by simp]
  rw [h2]
  match i with
  | 0 => exact hu
  | 1 => exact hu
  | 2 => exact hu
  | 3 => exact hu
  | i + 4 => exact absurd hu (by simp)
 | 1, hp =>
  cases hp
  refine ⟨_, rfl, k65_mk w ⟨b, 0, 0, 0⟩, fun i u hu => ?_⟩
  have h2 := blk_cell h (4 + i)
  rw [add_plain, show 1 * k65.sz + i = 4 + i by rfl]
  rw [h2]
  match i with
  | 0 => exact hu
  | 1 => exact hu
  | 2 => exact hu
  | 3 => exact hu
  | i + 4 => exact absurd hu (by simp)
 | j + 2, hp => exact absurd hp (by simp)
theorem C_pair {w : World} {g t : Nat} {B0 B1 : Option Addr} {l0 l1 : List S65} (h : w.heap[g]? = some (.cells #[.slice B0 l0.length l0.length, .slice B1 l1.length l1.length] t (0, 0))) (h0 : Kd.C k65 w B0 l0.length l0) (h1 : Kd.C k65 w B1 l1.length l1) : Kd.C (Kd.slice 65 k65) w (some ⟨g, 0, none⟩) 2 [l0, l1] := by
 refine ⟨rfl, by simp, fun _ => ⟨_, rfl, ?_⟩⟩
 intro j p hp
 match j, hp with
 | 0, hp =>
  cases hp
  refine ⟨_, rfl, ⟨B0, l0.length, rfl, Nat.le_refl _, h0⟩, fun i u hu => ?_⟩
  have h2 := blk_cell h i
  rw [add_plain, show 0 * (Kd.slice 65 k65).sz + i = i by simp, h2]
  match i with
  | 0 => exact hu
  | i + 1 => exact absurd hu (by simp)
 | 1, hp =>
  cases hp
  refine ⟨_, rfl, ⟨B1, l1.length, rfl, Nat.le_refl _, h1⟩, fun i u hu => ?_⟩
  have h2 := blk_cell h (1 + i)
  rw [add_plain, show 1 * (Kd.slice 65 k65).sz + i = 1 + i by rfl, h2]
  match i with
  | 0 => exact hu
  | i + 1 => exact absurd hu (by simp)
 | j + 2, hp => exact absurd hp (by simp)
def ysK : List (List S64) := [[⟨1, 0, 0, 0⟩, ⟨5, 0, 0, 0⟩], [⟨1, 0, 0, 0⟩, ⟨2, 0, 0, 0⟩]]
theorem leastK {p0 p1 i : Nat} (hi : i < 2) (h0 : p0 ≤ 2) (h1 : p1 ≤ 2) (hav : [p0, p1].getD i 0 < 2) (h : ∀ j, j < 2 → [p0, p1].getD j 0 < 2 → (entO ysK [p0, p1] i).f0 < (entO ysK [p0, p1] j).f0 ∨ ((entO ysK [p0, p1] i).f0 = (entO ysK [p0, p1] j).f0 ∧ i ≤ j)) : Least ysK [p0, p1] i := by
 have hl : ∀ j, j < 2 → (ysK.getD j []).length = 2 := fun j hj => by
  rcases (by omega : j = 0 ∨ j = 1) with rfl | rfl <;> rfl
 exact ⟨⟨hi, by rw [hl i hi]; exact hav⟩, fun j hj => h j hj.1 (by have := hj.2; rwa [hl j hj.1] at this)⟩
theorem mgK : Mg ysK [0, 0] [(0, ⟨1, 0, 0, 0⟩), (1, ⟨1, 0, 0, 0⟩), (1, ⟨2, 0, 0, 0⟩), (0, ⟨5, 0, 0, 0⟩)] := by
 have two : ∀ (Q : Nat → Prop), Q 0 → Q 1 → ∀ j, j < 2 → Q j := fun Q a b j hj => by
  rcases (by omega : j = 0 ∨ j = 1) with rfl | rfl
  ·exact a
  ·exact b
 refine .step (i := 0) (leastK (by omega) (by omega) (by omega) (by decide) (two _ (by decide) (by decide))) ?_
 refine .step (i := 1) (pos := [1, 0]) (leastK (by omega) (by omega) (by omega) (by decide) (two _ (by decide) (by decide))) ?_
 refine .step (i := 1) (pos := [1, 1]) (leastK (by omega) (by omega) (by omega) (by decide) (two _ (by decide) (by decide))) ?_
 refine .step (i := 0) (pos := [1, 2]) (leastK (by omega) (by omega) (by omega) (by decide) (two _ (by decide) (by decide))) ?_
 refine .done (fun i hi => ?_)
 obtain ⟨h1, h2⟩ := hi
 rcases (show i = 0 ∨ i = 1 by have : i < 2 := h1; omega) with rfl | rfl
 ·exact absurd h2 (by decide)
 ·exact absurd h2 (by decide)
set_option maxHeartbeats 8000000 in
set_option maxRecDepth 100000 in
theorem mknows_calls (w : World) : Calls Try.prog 38 #[] w fun e w' => e = .returned (.bool true) ∧ Below w.heap.size w w' := by
 have hu65 := Try.underlying65
 have hu67 := Try.underlying67
 go_enter Try.func38, Try.ntmps38
 go_wp2_with fail
 have e1 : (w.alloc (.cells #[.int .i64 1, .int .i64 0, .int .i64 0, .int .i64 0, .int .i64 5, .int .i64 0, .int .i64 0, .int .i64 0] 65)).heap.size = w.heap.size + 1 := alloc_size _ _
 have e2 : ((w.alloc (.cells #[.int .i64 1, .int .i64 0, .int .i64 0, .int .i64 0, .int .i64 5, .int .i64 0, .int .i64 0, .int .i64 0] 65)).alloc (.cells #[.int .i64 1, .int .i64 0, .int .i64 0, .int .i64 0, .int .i64 2, .int .i64 0, .int .i64 0, .int .i64 0] 65)).heap.size = w.heap.size + 1 + 1 := by rw [alloc_size, alloc_size]
 have b0 := blk_alloc (blk_alloc (heap_alloc_new w (.cells #[.int .i64 1, .int .i64 0, .int .i64 0, .int .i64 0, .int .i64 5, .int .i64 0, .int .i64 0, .int .i64 0] 65)) (.cells #[.int .i64 1, .int .i64 0, .int .i64 0, .int .i64 0, .int .i64 2, .int .i64 0, .int .i64 0, .int .i64 0] 65)) (.cells #[.slice (some ⟨w.heap.size, 0, none⟩) 2 2, .slice (some ⟨w.heap.size + 1, 0, none⟩) 2 2] 31)
 have b1 := blk_alloc (heap_alloc_new (w.alloc (.cells #[.int .i64 1, .int .i64 0, .int .i64 0, .int .i64 0, .int .i64 5, .int .i64 0, .int .i64 0, .int .i64 0] 65)) (.cells #[.int .i64 1, .int .i64 0, .int .i64 0, .int .i64 0, .int .i64 2, .int .i64 0, .int .i64 0, .int .i64 0] 65)) (.cells #[.slice (some ⟨w.heap.size, 0, none⟩) 2 2, .slice (some ⟨w.heap.size + 1, 0, none⟩) 2 2] 31)
 have b2 := heap_alloc_new ((w.alloc (.cells #[.int .i64 1, .int .i64 0, .int .i64 0, .int .i64 0, .int .i64 5, .int .i64 0, .int .i64 0, .int .i64 0] 65)).alloc (.cells #[.int .i64 1, .int .i64 0, .int .i64 0, .int .i64 0, .int .i64 2, .int .i64 0, .int .i64 0, .int .i64 0] 65)) (.cells #[.slice (some ⟨w.heap.size, 0, none⟩) 2 2, .slice (some ⟨w.heap.size + 1, 0, none⟩) 2 2] 31)
 rw [e1] at b1
 rw [e2] at b2
 have HB := asd (below_alloc (below_alloc (below_alloc (Below.refl w.heap.size w) (.cells #[.int .i64 1, .int .i64 0, .int .i64 0, .int .i64 0, .int .i64 5, .int .i64 0, .int .i64 0, .int .i64 0] 65)) (.cells #[.int .i64 1, .int .i64 0, .int .i64 0, .int .i64 0, .int .i64 2, .int .i64 0, .int .i64 0, .int .i64 0] 65)) (.cells #[.slice (some ⟨w.heap.size, 0, none⟩) 2 2, .slice (some ⟨w.heap.size + 1, 0, none⟩) 2 2] 31))
 have BC := asd (C_pair (l0 := [(⟨1, 0, 0, 0⟩ : S65), ⟨5, 0, 0, 0⟩]) (l1 := [(⟨1, 0, 0, 0⟩ : S65), ⟨2, 0, 0, 0⟩]) b2 (C_two b0) (C_two b1))
 clear b0 b1 b2 e1 e2
 generalize ((w.alloc (.cells #[.int .i64 1, .int .i64 0, .int .i64 0, .int .i64 0, .int .i64 5, .int .i64 0, .int .i64 0, .int .i64 0] 65)).alloc (.cells #[.int .i64 1, .int .i64 0, .int .i64 0, .int .i64 0, .int .i64 2, .int .i64 0, .int .i64 0, .int .i64 0] 65)).alloc (.cells #[.slice (some ⟨w.heap.size, 0, none⟩) 2 2, .slice (some ⟨w.heap.size + 1, 0, none⟩) 2 2] 31) = w3 at HB BC ⊢
 refine (mlogs_calls (some ⟨w.heap.size + 1 + 1, 0, none⟩) 2 ysK w3 BC.out (Nat.le_refl 2) (fun i => ?_) (by decide)).mono ?_
 ·match i with
  | 0 => decide
  | 1 => decide
  | i + 2 => simp [ysK]
 rintro e w4 ⟨v, rs, rfl, hm, hR, hb⟩
 obtain rfl := mg_fun hm mgK
 obtain ⟨g, cap, rfl, _⟩ := Kd.R_form hR (by decide)
 have HB4 := asd ((HB.out.trans (hb.mono HB.out.size)))
 obtain ⟨ad, ha, z0, _⟩ := at_T67 (C_ofR hR) 0 (by decide) (by decide)
 obtain rfl := Option.some.inj ha
 obtain ⟨ad, ha, z1, _⟩ := at_T67 (C_ofR hR) 1 (by decide) (by decide)
 obtain rfl := Option.some.inj ha
 obtain ⟨ad, ha, _, z2, _⟩ := at_T67 (C_ofR hR) 2 (by decide) (by decide)
 obtain rfl := Option.some.inj ha
 obtain ⟨ad, ha, _, z3, _⟩ := at_T67 (C_ofR hR) 3 (by decide) (by decide)
 obtain rfl := Option.some.inj ha
 have y0 : w4.cell? ⟨g, 0, none⟩ = some (.int .i64 0) := z0
 have y1 : w4.cell? ⟨g, 5, none⟩ = some (.int .i64 1) := z1
 have y2 : w4.cell? ⟨g, 11, none⟩ = some (.int .i64 2) := z2
 have y3 : w4.cell? ⟨g, 16, none⟩ = some (.int .i64 5) := z3
 clear z0 z1 z2 z3 hm hR hb BC
 go_wp2
 go_ret
 exact ⟨rfl, HB4.out⟩
end Go.Proofs.Ytalimpniimgheaa.Fn
namespace Go.Proofs.Ytalimpniimgheaa.Fn
open Go.RowKit Go.Proofs.YtalimpniimgheaaW.PrintWords Go.Proofs.YtalimpniimgheaaW.PrintLast Go.Proofs.YtalimpniimgheaaW.PrintMore
set_option linter.unusedVariables false
set_option linter.unusedSimpArgs false
end Go.Proofs.Ytalimpniimgheaa.Fn
namespace Go.Proofs.Ytalimpniimgheaa.Fn
open Go.RowKit Go.Proofs.YtalimpniimgheaaW.PrintWords Go.Proofs.YtalimpniimgheaaW.PrintLast Go.Proofs.YtalimpniimgheaaW.PrintMore
set_option linter.unusedVariables false
set_option linter.unusedSimpArgs false
attribute [local go_sem] max2_mx min2_mn max_two min_two
section
variable (A : Option Addr) (c : Nat) (xs : List S67) (bx : Addr) (p : S67 → Bool)
end
section
variable (g c : Nat) (xs : List S67) (bx : Addr) (p : S67 → Bool)
end
section
variable (A : Option Addr) (c : Nat) (xs : List S67)  (p : S67 → Bool)
set_option maxHeartbeats 4000000 in
set_option maxRecDepth 100000 in
theorem idx45_calls (w : World) (h : k67.C w A xs.length xs) (hl : xs.length ≤ 100000) (hp : ∀ wr x, Below w.heap.size w wr → Calls Try.prog 45 #[.agg #[.int .i64 x.f0, .int .i64 x.f1.f0, .int .i64 x.f1.f1, .int .i64 x.f1.f2, .int .i64 x.f1.f3]] wr fun e w' => e = .returned (.bool (p x)) ∧ Below wr.heap.size wr w') :
  Calls Try.prog 83 #[.slice A xs.length c, .func (.func 45) #[] #[]] w fun e w' => ∃ r, e = .returned (.int .i64 r) ∧ IdxOf p xs z67 r ∧ Below w.heap.size w w' := by
 have hu := Try.underlying67
 have HC := asd h
 have HP := asd hp
 have HL := asd hl
 clear h hp hl
 go_enter Try.func83, Try.ntmps83
 go_wp2
 go_loopw [8] (fun v wr => ∃ i : Nat, v = .int .i64 i ∧ Aside0 (i ≤ xs.length ∧ ∀ j, j < i → p (xs.getD j z67) = false) ∧ Aside0 (Below w.heap.size w wr)) (fun v _ => xs.length - (intOf v).toNat)
 case atStart => exact ⟨0, rfl, ⟨by omega, fun j hj => by omega⟩, ⟨Below.refl _ _⟩⟩
 case round =>
  obtain ⟨i, rfl, HX, HB⟩ := hrel
  have h99 : (xs.length : Int) ≤ 100000 := by have := HL.out; omega
  by_cases hlt : i < xs.length
  ·have q0 : ((i : Int) < (xs.length : Int)) = True := eq_true (by omega)
   have q1 : decide ((i : Int) < (xs.length : Int)) = true := decide_eq_true (by omega)
   have q2 : decide (i < xs.length) = true := decide_eq_true hlt
   obtain ⟨ad, rfl, y0, y1, y2, y3, y4⟩ := at_T67 (Kd.C_below HC.out HB.out) (i : Int) (by omega) (by omega)
   simp only [Int.toNat_natCast] at y0 y1 y2 y3 y4
   have HR : Aside0 (rd_T67 xs (i : Int) = xs.getD i z67) := ⟨by unfold rd_T67; rw [Int.toNat_natCast]⟩
   generalize rd_T67 xs (i : Int) = x at *
   have HPX := asd (fun wr hb2 => HP.out wr x hb2)
   cases hb : p x with
   | true =>
    rw [hb] at HPX
    have HT : Aside0 (p (xs.getD i z67) = true) := ⟨by rw [← HR.out]; exact hb⟩
    clear hb HR
    go_wp2_with (first | (go_at_call 45; refine (HPX.out _ HB.out).mono ?_; rintro e w1 ⟨rfl, hb⟩; have HB1 := asd (below_step HB.out hb); clear hb))
    go_ret
    exact ⟨_, rfl, .inr ⟨i, hlt, rfl, HT.out, HX.out.2⟩, HB1.out⟩
   | false =>
    rw [hb] at HPX
    have HT : Aside0 (p (xs.getD i z67) = false) := ⟨by rw [← HR.out]; exact hb⟩
    clear hb HR
    go_wp2_with (first | (go_at_call 45; refine (HPX.out _ HB.out).mono ?_; rintro e w1 ⟨rfl, hb⟩; have HB1 := asd (below_step HB.out hb); clear hb))
    go_roundw
    case rel => exact ⟨i + 1, by go_num, ⟨by omega, fun j hj => by
     rcases Nat.lt_or_ge j i with h1 | h1
     ·exact HX.out.2 j h1
     ·rw [show j = i by omega]; exact HT.out⟩, HB1⟩
    case measure => simp [intOf]; omega
  ·have q1 : decide ((i : Int) < (xs.length : Int)) = false := decide_eq_false (by omega)
   have q2 : decide (i < xs.length) = false := decide_eq_false hlt
   have e : i = xs.length := by have := HX.out.1; omega
   subst e
   clear hlt
   go_wp2
   go_ret
   exact ⟨-1, rfl, .inl ⟨rfl, HX.out.2⟩, HB.out⟩
end
set_option maxHeartbeats 2000000 in
set_option maxRecDepth 100000 in
theorem late45_calls (x : S67) (w : World) : Calls Try.prog 45 #[.agg #[.int .i64 x.f0, .int .i64 x.f1.f0, .int .i64 x.f1.f1, .int .i64 x.f1.f2, .int .i64 x.f1.f3]] w fun e w' => e = .returned (.bool (decide (5 ≤ x.f1.f0))) ∧ Below w.heap.size w w' := by
 have hu := Try.underlying67
 have hu2 := Try.underlying65
 go_enter Try.func45, Try.ntmps45
 go_wp2
 go_ret
 exact ⟨rfl, below_alloc (Below.refl _ _) _⟩
def knownB (n : Int) : Bool := decide (0 ≤ n) && decide (n < 64)
def betB (a b : Int) (x : S67) : Bool := decide (a ≤ x.f1.f0) && decide (x.f1.f0 < b)
end Go.Proofs.Ytalimpniimgheaa.Fn
namespace Go.Proofs.Ytalimpniimgheaa.Fn
open Go.RowKit Go.Proofs.YtalimpniimgheaaW.PrintWords Go.Proofs.YtalimpniimgheaaW.PrintLast Go.Proofs.YtalimpniimgheaaW.PrintMore
attribute [local go_sem] max2_mx min2_mn max_two min_two max_three min_three max_four min_four
set_option linter.unusedVariables false
set_option linter.unusedSimpArgs false
def merge_Split.l0 : Nat → Int → List (List (S65)) → List (S67) → Int → Int → Option ((List (List (S65))))
 | 0, _, _, _, _, _ => none
 | k + 1, x1, x5, x15, x16, x17 => if x17 < x16 then (if 0 ≤ x17 then (if x17 < (x15.length : Int) then (if ((rd_T67 x15 x17).f0) ≥ 0 then (if ((rd_T67 x15 x17).f0) < x1 then (if 0 ≤ ((rd_T67 x15 x17).f0) then (if ((rd_T67 x15 x17).f0) < (x5.length : Int) then (if (rd_L10 x5 ((rd_T67 x15 x17).f0)).length < 4398046511104 then (merge_Split.l0 k x1 (x5.set (((rd_T67 x15 x17).f0) : Int).toNat ((rd_L10 x5 ((rd_T67 x15 x17).f0)) ++ [(⟨(rd_T67 x15 x17).f1.f0, (rd_T67 x15 x17).f1.f1, (rd_T67 x15 x17).f1.f2, (rd_T67 x15 x17).f1.f3⟩ : S65)])) x15 x16 (wrap64 (x17 + 1))) else (none)) else (none)) else (none)) else (merge_Split.l0 k x1 x5 x15 x16 (wrap64 (x17 + 1)))) else (merge_Split.l0 k x1 x5 x15 x16 (wrap64 (x17 + 1)))) else (none)) else (none)) else (some x5)
def merge_Split.f (k : Nat) (l0 : List (S67)) (a1 : Int) : Option ((List (List (S65)))) := if (mn (mx a1 0) 64) = 0 then (some ([] : List (List (S65)))) else (if 0 ≤ (mn (mx a1 0) 64) then (if (mn (mx a1 0) 64 : Int).toNat ≤ 11728124029610 then (merge_Split.l0 k (mn (mx a1 0) 64) (List.replicate (mn (mx a1 0) 64 : Int).toNat []) l0 (l0.length : Int) 0) else (none)) else (none))
def merge_Split.T9 : Bool × List (List Nat × List Nat) := (true, [([], []), ([], []), ([1], [1]), ([], []), ([], []), ([4], [4]), ([3, 5], [3, 5]), ([6], [6]), ([], []), ([8], [8]), ([9], [9]), ([7, 10], [7, 10]), ([0, 2, 0, 1, 2, 3, 4, 5, 6, 7, 8, 9, 10, 11], [0, 2]), ([12, 11, 11, 0, 1, 2, 3, 4, 5, 6, 7, 8, 9, 10, 11], [11, 12])])
def merge_Split.B9 : List Nat := [0, 0, 2, 0, 0, 16, 56, 120, 0, 256, 768, 2040, 4095, 8191]
theorem merge_Split.tab9 : rtab .any (opsOf Try.f43 9) = merge_Split.T9 := by kernel_rfl
theorem merge_Split.bits9 : waitsOk merge_Split.T9.2 merge_Split.B9 = true := by kernel_rfl
set_option maxHeartbeats 8000000 in
set_option maxRecDepth 100000 in
theorem merge_Split.calls (k : Nat) (A0 : Option Addr) (c0 : Nat) (l0 : List (S67)) (a1 : Int) (r : List (List (S65))) (w : World) (hr0 : Kd.C k67 w A0 l0.length l0) (hc0 : l0.length ≤ c0) (h : merge_Split.f k l0 a1 = some r) :
  Calls Try.prog 43 #[.slice A0 l0.length c0, .int .i64 a1] w fun e w' => ∃ v0_ : Value, e = .returned (v0_) ∧ Kd.S (Kd.slice 65 k65) 31 w' w.heap.size (fun _ => True) v0_ r ∧ Below w.heap.size w w' := by
 have hu67 := Try.underlying67
 have hu65 := Try.underlying65
 have HR0 := asd hr0
 have HC0 := asd hc0
 clear hr0 hc0
 have HB := asd (Below.refl w.heap.size w)
 have H : (if (mn (mx a1 0) 64) = 0 then (some ([] : List (List (S65)))) else (if 0 ≤ (mn (mx a1 0) 64) then (if (mn (mx a1 0) 64 : Int).toNat ≤ 11728124029610 then (merge_Split.l0 k (mn (mx a1 0) 64) (List.replicate (mn (mx a1 0) 64 : Int).toNat []) l0 (l0.length : Int) 0) else (none)) else (none))) = some r := h
 clear h
 obtain ⟨ji3, hji3⟩ : ∃ j_ : Int, (mx a1 0) = j_ := ⟨_, rfl⟩
 replace H : (if (mn (ji3) 64) = 0 then (some ([] : List (List (S65)))) else (if 0 ≤ (mn (ji3) 64) then (if (mn (ji3) 64 : Int).toNat ≤ 11728124029610 then (merge_Split.l0 k (mn (ji3) 64) (List.replicate (mn (ji3) 64 : Int).toNat []) l0 (l0.length : Int) 0) else (none)) else (none))) = some r := by first | (rw [hji3] at H; exact H) | (simp only [hji3] at H ⊢; exact H)
 (try (have hji3l : 0 ≤ ji3 := by (rw [← hji3]; unfold mx; (repeat' split) <;> omega)))
 (try (have hji3m : 0 ≤ ji3 := by omega))
 obtain ⟨ji4, hji4⟩ : ∃ j_ : Int, (mn (ji3) 64) = j_ := ⟨_, rfl⟩
 replace H : (if (ji4) = 0 then (some ([] : List (List (S65)))) else (if 0 ≤ (ji4) then (if (ji4 : Int).toNat ≤ 11728124029610 then (merge_Split.l0 k ji4 (List.replicate (ji4 : Int).toNat []) l0 (l0.length : Int) 0) else (none)) else (none))) = some r := by first | (rw [hji4] at H; exact H) | (simp only [hji4] at H ⊢; exact H)
 by_cases c5 : (ji4) = 0
 ·rw [if_pos c5] at H
  have c5b0 : ((ji4) == 0) = true := beq_iff_eq.mpr c5
  have c5b1 : ((ji4) != 0) = false := bne_eq_false_iff_eq.mpr c5
  clear c5
  obtain rfl := Option.some.inj H
  go_enter Try.func43, Try.ntmps43
  go_wp2
  go_ret
  exact ⟨_, by first | rfl | (simp [errW_none, errW_some] <;> rfl) | (simp only [← hji3, ← hji4]; first | rfl | (simp [errW_none, errW_some] <;> rfl)) | (simp [*, errW_none, errW_some] <;> rfl), by first | exact Kd.S_nil _ _ _ _ _ | exact Kd.N_nil _ _ _ _ _ | exact Kd.V_nil _ _ _ _ _ | exact Kd.Q_nil _ _ _ _ _ | exact Kd.R_nil _ _ _ _ _, by repeat (first | (with_reducible first | exact HB.out | apply wa | apply wn | apply wd) | exact HB.out)⟩
 ·rw [if_neg c5] at H
  have c5b0 : ((ji4) == 0) = false := beq_eq_false_iff_ne.mpr c5
  have c5b1 : ((ji4) != 0) = true := bne_iff_ne.mpr c5
  by_cases c6 : 0 ≤ (ji4)
  ·rw [if_pos c6] at H
   have c6b0 := eq_true c6
   have c6b1 : decide (0 ≤ (ji4)) = true := decide_eq_true c6
   clear c6
   by_cases c7 : (ji4 : Int).toNat ≤ 11728124029610
   ·rw [if_pos c7] at H
    have c7b0 := eq_true c7
    have c7b1 : decide ((ji4 : Int).toNat ≤ 11728124029610) = true := decide_eq_true c7
    clear c7
    obtain ⟨y292, hy292⟩ : ∃ y_ : List (List (S65)), y_ = (List.replicate (ji4 : Int).toNat []) := ⟨_, rfl⟩
    replace H : (merge_Split.l0 k ji4 y292 l0 (l0.length : Int) 0) = some r := by first | (rw [hy292]; with_reducible exact H) | (have H2_ := (Option.bind_some _ _).symm.trans H; rw [hy292]; with_reducible exact H2_) | (have H2_ := (Option.bind_some _ _).symm.trans H; with_reducible exact H2_) | with_reducible exact H | (rw [hy292]; exact H) | exact H
    have Ny292 := asd hy292
    clear hy292
    have H' := asd H
    clear H
    go_enter Try.func43, Try.ntmps43
    go_wp2_with (first | ((with_reducible refine gate_dst (N := 14) rfl ?_); refine Kd.S_make (Kd.slice 65 k65) _ 31 rfl (N := 14) rfl 58 _ _ rfl ji4 rfl rfl Try.underlying58 (.slice none 0 0) 24 info31 rfl (by decide) (by omega) [] (ok := fun _ => True) (okp := fun _ => True) ⟨_, rfl, Kd.R_nil _ _ _ _ _⟩ (fun _ hk => hk) trivial (of_decide_eq_true (by assumption)) (Nat.le_trans (Nat.mul_le_mul_right _ (of_decide_eq_true (by assumption) : ji4.toNat ≤ 11728124029610)) (by omega)) (Below.refl _ _) (Nat.le_refl _) ?_; intro v293 w8 ho9 hb hg_ hnew_; clear hg_ hnew_; (first | rw [← Ny292.out] at ho9 | (simp only [Int.reduceToNat] at ho9; rw [← Ny292.out] at ho9)); have n0_ := asd (Kd.S_lower ho9 (below_size (by repeat (first | (with_reducible first | exact HB.out | apply wa | apply wn | apply wd) | exact HB.out)))); have n1_ := asd (below_step (by repeat (first | (with_reducible first | exact HB.out | apply wa | apply wn | apply wd) | exact HB.out)) hb); clear HB; have HO294 := n0_; have HB := n1_; clear n0_ n1_; clear hb ho9))
    go_loopg [17] k (fun kq v17 w' => ∃ (x5_1 : List (List (S65))) (x17_1 : Int), v17 = .int .i64 x17_1 ∧ Aside0 (merge_Split.l0 kq ji4 x5_1 l0 (l0.length : Int) x17_1 = some r) ∧ Aside0 (kq ≤ k) ∧ Aside0 (Kd.S (Kd.slice 65 k65) 31 w' w.heap.size (fun _ => True) v293 x5_1) ∧ Aside0 (Below w.heap.size w w'))
    case atStart => exact ⟨(y292), (0), (by first | rfl | (simp; done) | (simp [*]; done)), H', ⟨Nat.le_refl _⟩, ⟨by (with_reducible repeat (first | apply Kd.S_alloc | apply Kd.S_drewN | apply Kd.S_drew)); exact HO294.out⟩, ⟨by repeat (first | (with_reducible first | exact HB.out | apply wa | apply wn | apply wd) | exact HB.out)⟩⟩
    case round =>
     clear H'
     try clear p2
     try clear c4
     try clear c5
     try clear c5b0
     try clear c5b1
     try clear c6
     try clear c6b0
     try clear c6b1
     try clear c7
     try clear c7b0
     try clear c7b1
     obtain ⟨x5_1, x17_1, rfl, HA, HK1, HO_5, HB⟩ := hrel
     cases gk with
     | zero => exact absurd HA.out (by simp [merge_Split.l0])
     | succ k1 =>
      have H := HA.out
      clear HA
      simp only [merge_Split.l0] at H
      by_cases c10 : x17_1 < (l0.length : Int)
      ·rw [if_pos c10] at H
       have c10b0 : decide (x17_1 < (l0.length : Int)) = true := decide_eq_true c10
       clear c10
       by_cases c11 : 0 ≤ x17_1
       ·rw [if_pos c11] at H
        have c11b0 : decide (0 ≤ x17_1) = true := decide_eq_true c11
        clear c11
        by_cases c12 : x17_1 < (l0.length : Int)
        ·rw [if_pos c12] at H
         have c12b0 : decide (x17_1 < (l0.length : Int)) = true := decide_eq_true c12
         clear c12
         by_cases c13 : ((rd_T67 l0 x17_1).f0) ≥ 0
         ·rw [if_pos c13] at H
          have c13b0 : decide (0 ≤ ((rd_T67 l0 x17_1).f0)) = true := decide_eq_true c13
          clear c13
          by_cases c14 : ((rd_T67 l0 x17_1).f0) < ji4
          ·rw [if_pos c14] at H
           have c14b0 : decide (((rd_T67 l0 x17_1).f0) < ji4) = true := decide_eq_true c14
           clear c14
           by_cases c15 : 0 ≤ ((rd_T67 l0 x17_1).f0)
           ·rw [if_pos c15] at H
            have c15b0 : decide (0 ≤ ((rd_T67 l0 x17_1).f0)) = true := decide_eq_true c15
            clear c15
            by_cases c16 : ((rd_T67 l0 x17_1).f0) < (x5_1.length : Int)
            ·rw [if_pos c16] at H
             have c16b0 : decide (((rd_T67 l0 x17_1).f0) < (x5_1.length : Int)) = true := decide_eq_true c16
             clear c16
             by_cases c17 : (rd_L10 x5_1 ((rd_T67 l0 x17_1).f0)).length < 4398046511104
             ·rw [if_pos c17] at H
              have LMc17 := asd c17
              clear c17
              obtain ⟨y298, hy298⟩ : ∃ y_ : List (S65), y_ = ((rd_L10 x5_1 ((rd_T67 l0 x17_1).f0)) ++ [(⟨(rd_T67 l0 x17_1).f1.f0, (rd_T67 l0 x17_1).f1.f1, (rd_T67 l0 x17_1).f1.f2, (rd_T67 l0 x17_1).f1.f3⟩ : S65)]) := ⟨_, rfl⟩
              replace H : (merge_Split.l0 k1 ji4 (x5_1.set (((rd_T67 l0 x17_1).f0) : Int).toNat y298) l0 (l0.length : Int) (wrap64 (x17_1 + 1))) = some r := by first | (rw [hy298]; with_reducible exact H) | (have H2_ := (Option.bind_some _ _).symm.trans H; rw [hy298]; with_reducible exact H2_) | (have H2_ := (Option.bind_some _ _).symm.trans H; with_reducible exact H2_) | with_reducible exact H | (rw [hy298]; exact H) | exact H
              have Ny298 := asd hy298
              clear hy298
              obtain ⟨y301, hy301⟩ : ∃ y_ : List (List (S65)), y_ = (x5_1.set (((rd_T67 l0 x17_1).f0) : Int).toNat y298) := ⟨_, rfl⟩
              replace H : (merge_Split.l0 k1 ji4 y301 l0 (l0.length : Int) (wrap64 (x17_1 + 1))) = some r := by first | (rw [hy301]; with_reducible exact H) | (have H2_ := (Option.bind_some _ _).symm.trans H; rw [hy301]; with_reducible exact H2_) | (have H2_ := (Option.bind_some _ _).symm.trans H; with_reducible exact H2_) | with_reducible exact H | (rw [hy301]; exact H) | exact H
              have Ny301 := asd hy301
              clear hy301
              have H' := asd H
              clear H
              have p295 : 0 ≤ (x17_1 : Int) := of_decide_eq_true (by assumption)
              have q295 : x17_1 < (l0.length : Int) := of_decide_eq_true (by assumption)
              obtain ⟨ad295, e295, hx295_0, hx295_1, hx295_2, hx295_3, hx295_4⟩ := at_T67 HR0.out x17_1 p295 q295
              cases e295
              replace hx295_0 := (HB.out.cell (World.block_lt_of_cell? w _ hx295_0)).trans hx295_0
              replace hx295_1 := (HB.out.cell (World.block_lt_of_cell? w _ hx295_1)).trans hx295_1
              replace hx295_2 := (HB.out.cell (World.block_lt_of_cell? w _ hx295_2)).trans hx295_2
              replace hx295_3 := (HB.out.cell (World.block_lt_of_cell? w _ hx295_3)).trans hx295_3
              replace hx295_4 := (HB.out.cell (World.block_lt_of_cell? w _ hx295_4)).trans hx295_4
              replace p295 := eq_true p295
              replace q295 := eq_true q295
              try go_wp2_with (first | ((with_reducible refine gate_dst (N := 7) rfl ?_); refine box_event ?hg (N := 7) ?hd (cs := #[.int .i64 0, .int .i64 0, .int .i64 0, .int .i64 0, .int .i64 0]) (t := 67) ?hr ?_; (case hd => rfl); (case hg => rfl); (case hr => first | (go_simp; done) | (go_simp; rfl)); intro gb296 hg w19 hbox hb; have n0_ := asd (Kd.S_below (by (with_reducible repeat (first | apply Kd.S_alloc | apply Kd.S_drewN | apply Kd.S_drew)); exact HO_5.out) hb); have n1_ := asd (below_step (by repeat (first | (with_reducible first | exact HB.out | apply wa | apply wn | apply wd) | exact HB.out)) hb); have n2_ := asd (hbox); have n3_ := asd ((by rw [hg]; exact (below_size (by repeat (first | (with_reducible first | exact HB.out | apply wa | apply wn | apply wd) | exact HB.out))) : w.heap.size ≤ gb296)); have n4_ := asd ((by rw [hg]; exact (below_size (by repeat (first | (with_reducible first | exact HB.out | apply wa | apply wn | apply wd) | exact HB.out))) : w.heap.size ≤ gb296)); clear HO_5; clear HB; have HO_5 := n0_; have HB := n1_; have BK296 := n2_; have GW296 := n3_; have GE296 := n4_; clear n0_ n1_ n2_ n3_ n4_; clear hb hbox hg; have hcz20_0 : w19.cell? ⟨gb296, 0, none⟩ = some (.int .i64 0) := (blk_cell BK296.out 0).trans rfl; have hcz20_1 : w19.cell? ⟨gb296, 1, none⟩ = some (.int .i64 0) := (blk_cell BK296.out 1).trans rfl; have hcz20_2 : w19.cell? ⟨gb296, 2, none⟩ = some (.int .i64 0) := (blk_cell BK296.out 2).trans rfl; have hcz20_3 : w19.cell? ⟨gb296, 3, none⟩ = some (.int .i64 0) := (blk_cell BK296.out 3).trans rfl; have hcz20_4 : w19.cell? ⟨gb296, 4, none⟩ = some (.int .i64 0) := (blk_cell BK296.out 4).trans rfl; have hfz20_0 := blk_frozen BK296.out 0; have hfz20_1 := blk_frozen BK296.out 1; have hfz20_2 := blk_frozen BK296.out 2; have hfz20_3 := blk_frozen BK296.out 3; have hfz20_4 := blk_frozen BK296.out 4))
              have n0_ : Aside0 (Kd.S (Kd.slice 65 k65) 31 (((((w19.setCell ⟨gb296, 0, none⟩ (.int .i64 ((rd_T67 l0 x17_1).f0))).setCell ⟨gb296, 1, none⟩ (.int .i64 ((rd_T67 l0 x17_1).f1.f0))).setCell ⟨gb296, 2, none⟩ (.int .i64 ((rd_T67 l0 x17_1).f1.f1))).setCell ⟨gb296, 3, none⟩ (.int .i64 ((rd_T67 l0 x17_1).f1.f2))).setCell ⟨gb296, 4, none⟩ (.int .i64 ((rd_T67 l0 x17_1).f1.f3))) w.heap.size (fun _ => True) v293 x5_1) := ⟨by (with_reducible repeat (first | apply Kd.S_alloc | apply Kd.S_drewN | apply Kd.S_drew)); exact Kd.S_mono (Kd.S_far (p := ⟨gb296, 4, none⟩) (Kd.S_far (p := ⟨gb296, 3, none⟩) (Kd.S_far (p := ⟨gb296, 2, none⟩) (Kd.S_far (p := ⟨gb296, 1, none⟩) (Kd.S_far (p := ⟨gb296, 0, none⟩) (Kd.S_types HO_5.out BK296.out (by decide)) (fun _ hk => hk.2) (.int .i64 ((rd_T67 l0 x17_1).f0))) (fun _ hk => hk.2) (.int .i64 ((rd_T67 l0 x17_1).f1.f0))) (fun _ hk => hk.2) (.int .i64 ((rd_T67 l0 x17_1).f1.f1))) (fun _ hk => hk.2) (.int .i64 ((rd_T67 l0 x17_1).f1.f2))) (fun _ hk => hk.2) (.int .i64 ((rd_T67 l0 x17_1).f1.f3))) (fun _ hk => trivial)⟩
              have n1_ : Aside0 ((((((w19.setCell ⟨gb296, 0, none⟩ (.int .i64 ((rd_T67 l0 x17_1).f0))).setCell ⟨gb296, 1, none⟩ (.int .i64 ((rd_T67 l0 x17_1).f1.f0))).setCell ⟨gb296, 2, none⟩ (.int .i64 ((rd_T67 l0 x17_1).f1.f1))).setCell ⟨gb296, 3, none⟩ (.int .i64 ((rd_T67 l0 x17_1).f1.f2))).setCell ⟨gb296, 4, none⟩ (.int .i64 ((rd_T67 l0 x17_1).f1.f3))).heap[gb296]? = some (.cells #[.int .i64 ((rd_T67 l0 x17_1).f0), .int .i64 ((rd_T67 l0 x17_1).f1.f0), .int .i64 ((rd_T67 l0 x17_1).f1.f1), .int .i64 ((rd_T67 l0 x17_1).f1.f2), .int .i64 ((rd_T67 l0 x17_1).f1.f3)] 67 (0, 0))) := ⟨by (with_reducible repeat first | apply bn | apply bd | apply ba); refine blk_put (cs := #[.int .i64 ((rd_T67 l0 x17_1).f0), .int .i64 ((rd_T67 l0 x17_1).f1.f0), .int .i64 ((rd_T67 l0 x17_1).f1.f1), .int .i64 ((rd_T67 l0 x17_1).f1.f2), .int .i64 0]) ?_ 4 _ rfl; (with_reducible repeat first | apply bn | apply bd | apply ba); refine blk_put (cs := #[.int .i64 ((rd_T67 l0 x17_1).f0), .int .i64 ((rd_T67 l0 x17_1).f1.f0), .int .i64 ((rd_T67 l0 x17_1).f1.f1), .int .i64 0, .int .i64 0]) ?_ 3 _ rfl; (with_reducible repeat first | apply bn | apply bd | apply ba); refine blk_put (cs := #[.int .i64 ((rd_T67 l0 x17_1).f0), .int .i64 ((rd_T67 l0 x17_1).f1.f0), .int .i64 0, .int .i64 0, .int .i64 0]) ?_ 2 _ rfl; (with_reducible repeat first | apply bn | apply bd | apply ba); refine blk_put (cs := #[.int .i64 ((rd_T67 l0 x17_1).f0), .int .i64 0, .int .i64 0, .int .i64 0, .int .i64 0]) ?_ 1 _ rfl; (with_reducible repeat first | apply bn | apply bd | apply ba); refine blk_put (cs := #[.int .i64 0, .int .i64 0, .int .i64 0, .int .i64 0, .int .i64 0]) ?_ 0 _ rfl; (with_reducible repeat first | apply bn | apply bd | apply ba); exact BK296.out⟩
              have n2_ : Aside0 (Below w.heap.size w (((((w19.setCell ⟨gb296, 0, none⟩ (.int .i64 ((rd_T67 l0 x17_1).f0))).setCell ⟨gb296, 1, none⟩ (.int .i64 ((rd_T67 l0 x17_1).f1.f0))).setCell ⟨gb296, 2, none⟩ (.int .i64 ((rd_T67 l0 x17_1).f1.f1))).setCell ⟨gb296, 3, none⟩ (.int .i64 ((rd_T67 l0 x17_1).f1.f2))).setCell ⟨gb296, 4, none⟩ (.int .i64 ((rd_T67 l0 x17_1).f1.f3)))) := ⟨by repeat (first | (with_reducible first | exact HB.out | apply wa | apply wn | apply wd | refine ws ?_ GE296.out) | exact HB.out)⟩
              (try clear HO_5)
              (try clear BK296)
              (try clear HB)
              generalize (((((w19.setCell ⟨gb296, 0, none⟩ (.int .i64 ((rd_T67 l0 x17_1).f0))).setCell ⟨gb296, 1, none⟩ (.int .i64 ((rd_T67 l0 x17_1).f1.f0))).setCell ⟨gb296, 2, none⟩ (.int .i64 ((rd_T67 l0 x17_1).f1.f1))).setCell ⟨gb296, 3, none⟩ (.int .i64 ((rd_T67 l0 x17_1).f1.f2))).setCell ⟨gb296, 4, none⟩ (.int .i64 ((rd_T67 l0 x17_1).f1.f3))) = w21 at n0_ n1_ n2_ ⊢
              have HO_5 := n0_
              have BK296 := n1_
              have HB := n2_
              clear n0_ n1_ n2_
              have n0_ := asd (Kd.S_drew HO_5.out)
              have n1_ := asd (blk_drew BK296.out)
              have n2_ := asd (below_drew1 HB.out)
              clear HO_5
              clear BK296
              clear HB
              have HO_5 := n0_
              have BK296 := n1_
              have HB := n2_
              clear n0_ n1_ n2_
              obtain ⟨Ao23, co23, eo23⟩ := Kd.S_slice HO_5.out
              (first | subst eo23 | (injection eo23 with f1_ f2_ f3_; have f4_ := f1_.symm; have f5_ := f3_.symm; clear f1_ f2_ f3_; subst f4_; subst f5_))
              have p297 : 0 ≤ (((rd_T67 l0 x17_1).f0) : Int) := of_decide_eq_true (by assumption)
              have q297 : ((rd_T67 l0 x17_1).f0) < (x5_1.length : Int) := of_decide_eq_true (by assumption)
              obtain ⟨ad297, A297_0, c297_0, e297, hx297_0, hl297_0, hi297_0⟩ := at_L10 (Kd.S_reads' HO_5.out).2.2 ((rd_T67 l0 x17_1).f0) p297 q297
              cases e297
              obtain ⟨ce297, hce297, hMe297, hcc297⟩ := Kd.S_get HO_5.out [] ((rd_T67 l0 x17_1).f0) p297 (by first | exact q297 | exact of_decide_eq_true (by assumption) | (have e_ := (Kd.S_reads' HO_5.out).1; omega))
              obtain ⟨ve297_0, rfl, ge297_0⟩ := hMe297
              have hv297_0 := hcc297 0 _ rfl
              rw [Nat.add_zero, show ((Kd.slice 65 k65)).sz = 1 from rfl, Nat.mul_one] at hv297_0
              replace hv297_0 := Option.some.inj (hv297_0.symm.trans hx297_0)
              rw [hv297_0] at ge297_0
              have HL297_0 := asd (show Kd.R k65 65 _ _ _ _ (rd_L10 x5_1 ((rd_T67 l0 x17_1).f0)) from ge297_0)
              clear hv297_0 ge297_0
              have HX297_0 := asd hx297_0
              clear hcc297 hce297
              have HR297_0 := asd hi297_0
              have HC297_0 := asd hl297_0
              clear hi297_0 hl297_0
              replace p297 := eq_true p297
              replace q297 := eq_true q297
              obtain ⟨go24, co24, eo24, gb24, gl24, cl24, HG24⟩ := Kd.S_form HO_5.out (by have h_ : (((rd_T67 l0 x17_1).f0) : Int) < ((x5_1.length : Int) : Int) := of_decide_eq_true (by assumption); have h2_ : 0 ≤ (((rd_T67 l0 x17_1).f0) : Int) := (of_decide_eq_true (by assumption)); omega)
              (first | cases eo24 | (injection eo24 with ea_ en_ ec_; (first | subst ea_ | (injection ea_ with ea_; subst ea_)); subst ec_; clear en_))
              have GB24 := asd gb24
              have GG24 := asd HG24
              clear gb24 gl24 HG24
              (first | simp only [add_plain] at hx297_0 | skip)
              obtain ⟨oki24, ce24, hcl24, hM24, hcc24, _, _, hH24⟩ := Kd.S_elem HO_5.out [] (((rd_T67 l0 x17_1).f0) : Int) (of_decide_eq_true (by assumption)) (by have h_ : (((rd_T67 l0 x17_1).f0) : Int) < ((x5_1.length : Int) : Int) := of_decide_eq_true (by assumption); first | exact h_ | (have e_ := (Kd.S_reads' HO_5.out).1; omega) | simpa using h_)
              obtain ⟨ve24_0, rfl, ge24_0⟩ := hM24
              have hv24 := hcc24 0 _ rfl
              have hX24 := HX297_0.out
              (try simp only [add_plain] at hX24)
              (try simp only [Nat.add_zero] at hv24)
              (try rw [show ((Kd.slice 65 k65)).sz = 1 from rfl, Nat.mul_one] at hv24)
              replace hv24 := Option.some.inj (hv24.symm.trans hX24)
              subst hv24
              clear hX24 hcc24 hcl24
              have UU24 := asd (show Kd.R k65 65 _ w.heap.size oki24 (.slice A297_0 (rd_L10 x5_1 ((rd_T67 l0 x17_1).f0)).length c297_0) (rd_L10 x5_1 ((rd_T67 l0 x17_1).f0)) from ge24_0)
              have HH24 := asd hH24
              have HN24 := asd (Kd.S_reads' HO_5.out).1
              clear hH24 ge24_0
              refine start_ (n := 14) (S := fun w' => w'.cell? ⟨gb296, 0, none⟩ = some (.int .i64 ((rd_T67 l0 x17_1).f0)) ∧ w'.cell? ⟨gb296, 1, none⟩ = some (.int .i64 ((rd_T67 l0 x17_1).f1.f0)) ∧ w'.cell? ⟨gb296, 2, none⟩ = some (.int .i64 ((rd_T67 l0 x17_1).f1.f1)) ∧ w'.cell? ⟨gb296, 3, none⟩ = some (.int .i64 ((rd_T67 l0 x17_1).f1.f2)) ∧ w'.cell? ⟨gb296, 4, none⟩ = some (.int .i64 ((rd_T67 l0 x17_1).f1.f3)) ∧ w'.cell? ⟨go24, (((rd_T67 l0 x17_1).f0)).toNat, none⟩ = some (.slice A297_0 (rd_L10 x5_1 ((rd_T67 l0 x17_1).f0)).length c297_0)) (ds := [13]) #[false, false, false, false, false, false, false, false, false, false, false, false, false, false] (by kernel_rfl) rfl rfl ⟨(blk_cell BK296.out 0).trans rfl, (blk_cell BK296.out 1).trans rfl, (blk_cell BK296.out 2).trans rfl, (blk_cell BK296.out 3).trans rfl, (blk_cell BK296.out 4).trans rfl, hx297_0⟩ (fun hHeld => ?_); refine with_tabW merge_Split.tab9 merge_Split.bits9 (fun HT_ HW_ => ?_)
              generalize w21.drew = w22 at HO_5 BK296 HB GG24 HH24 HL297_0 HR297_0 HX297_0 UU24 hx297_0 hHeld ⊢
              refine pure_ (i := 0) (N := some 30) (v := ?_) (a' := ?_) #[true, false, false, false, false, false, false, false, false, false, false, false, false, false] rfl rfl (any_of HT_.out (by kernel_rfl)) (fun _ _ _ h => h) (Or.inl ⟨by rfl, ?_⟩) ?_ ?_
              rotate_left
              ·intro w'
               go_simp
               with_reducible rfl
              rotate_left
              ·simp only [Act.put, sB, i64_w, i32_w]
               rfl
              refine pure_ (i := 1) (N := some 31) (v := ?_) (a' := ?_) #[true, true, false, false, false, false, false, false, false, false, false, false, false, false] rfl rfl (any_of HT_.out (by kernel_rfl)) (fun _ _ _ h => h) (Or.inl ⟨by rfl, ?_⟩) ?_ ?_
              rotate_left
              ·intro w'
               go_simp
               with_reducible rfl
              rotate_left
              ·simp only [Act.put, sB, i64_w, i32_w]
               rfl
              refine pure_ (i := 3) (N := some 33) (v := ?_) (a' := ?_) #[true, true, false, true, false, false, false, false, false, false, false, false, false, false] rfl rfl (any_of HT_.out (by kernel_rfl)) (fun _ _ _ h => h) (Or.inl ⟨by rfl, ?_⟩) ?_ ?_
              rotate_left
              ·intro w'
               go_simp
               with_reducible rfl
              rotate_left
              ·simp only [Act.put, sB, i64_w, i32_w]
               rfl
              refine pure_ (i := 4) (N := some 34) (v := ?_) (a' := ?_) #[true, true, false, true, true, false, false, false, false, false, false, false, false, false] rfl rfl (any_of HT_.out (by kernel_rfl)) (fun _ _ _ h => h) (Or.inl ⟨by rfl, ?_⟩) ?_ ?_
              rotate_left
              ·intro w'
               go_simp
               with_reducible rfl
              rotate_left
              ·simp only [Act.put, sB, i64_w, i32_w]
               rfl
              refine pure_ (i := 8) (N := some 38) (v := ?_) (a' := ?_) #[true, true, false, true, true, false, false, false, true, false, false, false, false, false] rfl rfl (any_of HT_.out (by kernel_rfl)) (fun _ _ _ h => h) (Or.inl ⟨by rfl, ?_⟩) ?_ ?_
              rotate_left
              ·intro w'
               go_simp
               with_reducible rfl
              rotate_left
              ·simp only [Act.put, sB, i64_w, i32_w]
               rfl
              refine take_ (i := 2) (N := some 32) (v := ?_) (a' := ?_) #[true, true, true, true, true, false, false, false, true, false, false, false, false, false] rfl rfl (take_ofW HT_.out HW_.out (by kernel_rfl)) (fun _ _ _ h => h) (Or.inl ⟨by rfl, ?_⟩) hHeld ?_ ?_
              rotate_left
              ·rintro w' ⟨s0, s1, s2, s3, s4, s5⟩
               go_simp
               with_reducible rfl
              rotate_left
              ·simp only [Act.put, sB, i64_w, i32_w]
               rfl
              refine take_ (i := 5) (N := some 35) (v := ?_) (a' := ?_) #[true, true, true, true, true, true, false, false, true, false, false, false, false, false] rfl rfl (take_ofW HT_.out HW_.out (by kernel_rfl)) (fun _ _ _ h => h) (Or.inl ⟨by rfl, ?_⟩) hHeld ?_ ?_
              rotate_left
              ·rintro w' ⟨s0, s1, s2, s3, s4, s5⟩
               go_simp
               with_reducible rfl
              rotate_left
              ·simp only [Act.put, sB, i64_w, i32_w]
               rfl
              refine pure_ (i := 6) (N := some 36) (v := ?_) (a' := ?_) #[true, true, true, true, true, true, true, false, true, false, false, false, false, false] rfl rfl (any_of HT_.out (by kernel_rfl)) (fun _ _ _ h => h) (Or.inl ⟨by rfl, ?_⟩) ?_ ?_
              rotate_left
              ·intro w'
               go_simp
               with_reducible rfl
              rotate_left
              ·simp only [Act.put, sB, i64_w, i32_w]
               rfl
              refine take_ (i := 7) (N := some 37) (v := ?_) (a' := ?_) #[true, true, true, true, true, true, true, true, true, false, false, false, false, false] rfl rfl (take_ofW HT_.out HW_.out (by kernel_rfl)) (fun _ _ _ h => h) (Or.inl ⟨by rfl, ?_⟩) hHeld ?_ ?_
              rotate_left
              ·rintro w' ⟨s0, s1, s2, s3, s4, s5⟩
               go_simp
               with_reducible rfl
              rotate_left
              ·simp only [Act.put, sB, i64_w, i32_w]
               rfl
              refine take_ (i := 9) (N := some 39) (v := ?_) (a' := ?_) #[true, true, true, true, true, true, true, true, true, true, false, false, false, false] rfl rfl (take_ofW HT_.out HW_.out (by kernel_rfl)) (fun _ _ _ h => h) (Or.inl ⟨by rfl, ?_⟩) hHeld ?_ ?_
              rotate_left
              ·rintro w' ⟨s0, s1, s2, s3, s4, s5⟩
               go_simp
               with_reducible rfl
              rotate_left
              ·simp only [Act.put, sB, i64_w, i32_w]
               rfl
              refine one_ (i := 10) (N := some 40) #[true, true, true, true, true, true, true, true, true, true, true, false, false, false] rfl rfl (one_of HT_.out (by kernel_rfl)) (by decide) (fun K hK => ?_)
              refine value_ (w1 := ?_) (v := ?_) (by rfl) rfl ?_ ?_
              rotate_left 2
              ·go_simp
               constructor
               ·rfl
               ·rfl
              refine hK.out _ _ ⟨(blk_cell (blk_alloc BK296.out _) 0).trans rfl, (blk_cell (blk_alloc BK296.out _) 1).trans rfl, (blk_cell (blk_alloc BK296.out _) 2).trans rfl, (blk_cell (blk_alloc BK296.out _) 3).trans rfl, (blk_cell (blk_alloc BK296.out _) 4).trans rfl, (World.cell?_alloc_lt _ _ _ (World.block_lt_of_cell? _ _ (hHeld.2.2.2.2.2))).trans (hHeld.2.2.2.2.2)⟩ (fun hHeld => ?_)
              clear hK K
              refine norm_ (a' := ?_) ?_ ?_
              rotate_left
              ·show Act.put _ (some 40) _ = _
               simp only [Act.put, sB, i64_w, i32_w]
               rfl
              refine one_ (i := 11) (N := some 41) #[true, true, true, true, true, true, true, true, true, true, true, true, false, false] rfl rfl (one_of HT_.out (by kernel_rfl)) (by decide) (fun K hK => ?_)
              refine Kd.R_append_step k65 (w0 := w) w.heap.size (by rfl) (.tmp 37) (.tmp 40) 31 65 (.agg #[(.int .i64 0), (.int .i64 0), (.int .i64 0), (.int .i64 0)]) 32 rfl Try.underlying31 info65 rfl (by decide) (by omega) (.slice A297_0 (rd_L10 x5_1 ((rd_T67 l0 x17_1).f0)).length c297_0) (rd_L10 x5_1 ((rd_T67 l0 x17_1).f0)) (⟨(rd_T67 l0 x17_1).f1.f0, (rd_T67 l0 x17_1).f1.f1, (rd_T67 l0 x17_1).f1.f2, (rd_T67 l0 x17_1).f1.f3⟩ : S65) [.int .i64 ((rd_T67 l0 x17_1).f1.f0), .int .i64 ((rd_T67 l0 x17_1).f1.f1), .int .i64 ((rd_T67 l0 x17_1).f1.f2), .int .i64 ((rd_T67 l0 x17_1).f1.f3)] (fun k_ => oki24 k_ ∨ ((fun _ => True)) k_ ∧ w22.heap.size ≤ k_) (fun _ => False) rfl rfl ?aP (fun _ hk => hk.elim) ?aF ?aO ?aB ?aS ?aL ?_
              (case aP => exact k65_mkM _ _ _ (⟨(rd_T67 l0 x17_1).f1.f0, (rd_T67 l0 x17_1).f1.f1, (rd_T67 l0 x17_1).f1.f2, (rd_T67 l0 x17_1).f1.f3⟩ : S65))
              (case aB => exact (by repeat (first | (with_reducible first | exact HB.out | apply wa | apply wn | apply wd | refine ws ?_ GE296.out) | exact HB.out)))
              (case aF => exact (fun k_ hk => .inr ⟨trivial, hk⟩))
              (case aO => exact (by (with_reducible repeat (first | apply Kd.R_alloc | apply Kd.R_drewN | apply Kd.R_drew)); exact Kd.R_mono UU24.out (fun _ hk => .inl hk)))
              (case aS => exact (below_size (by repeat (first | (with_reducible first | exact HB.out | apply wa | apply wn | apply wd | refine ws ?_ GE296.out) | exact HB.out))))
              (case aL => have := LMc17.out; omega)
              intro v299 w25 ho hb hg hat
              (first | have HS5_ := cell_grown hg (hHeld.2.2.2.2.2) (by first | (rw [add_block]; exact (fun e_ => ((HL297_0.out.1 _ e_.symm).2) rfl)) | (show some (Addr.add _ _).block ≠ _; rw [add_block]; exact (fun e_ => ((HL297_0.out.1 _ e_.symm).2) rfl)) | exact (fun e_ => ((HL297_0.out.1 _ e_.symm).2) rfl)) | have HS5_ := cell_grown hg (cell_unalloc (hHeld.2.2.2.2.2) (by first | (rw [add_block]; exact Kd.S_lt HO_5.out _ rfl) | (show (Addr.add _ _).block < _; rw [add_block]; exact Kd.S_lt HO_5.out _ rfl) | exact Kd.S_lt HO_5.out _ rfl)) (by first | (rw [add_block]; exact (fun e_ => ((HL297_0.out.1 _ e_.symm).2) rfl)) | (show some (Addr.add _ _).block ≠ _; rw [add_block]; exact (fun e_ => ((HL297_0.out.1 _ e_.symm).2) rfl)) | exact (fun e_ => ((HL297_0.out.1 _ e_.symm).2) rfl)))
              rw [← Ny298.out] at ho
              have n0_ := asd (blk_grown (g := gb296) (o := .cells #[.int .i64 ((rd_T67 l0 x17_1).f0), .int .i64 ((rd_T67 l0 x17_1).f1.f0), .int .i64 ((rd_T67 l0 x17_1).f1.f1), .int .i64 ((rd_T67 l0 x17_1).f1.f2), .int .i64 ((rd_T67 l0 x17_1).f1.f3)] 67 (0, 0)) (by (with_reducible repeat first | apply bn | apply bd | apply ba); exact BK296.out) hg (Kd.R_ne HL297_0.out BK296.out (by decide)))
              have n1_ := asd (hb)
              have n2_ := asd (Kd.H_grown (Kd.H_widen (by repeat (first | exact HH24.out | refine Kd.H_alloc ?_ _ | refine Kd.H_drewN ?_ _ | refine Kd.H_drew ?_))) hg (fun k_ e_ => .inl (UU24.out.1 k_ e_)))
              have n3_ := asd (ho)
              clear BK296
              clear HB
              clear HH24
              clear HO_5
              clear UU24
              clear HL297_0
              have BK296 := n0_
              have HB := n1_
              have HH24 := n2_
              have HO300 := n3_
              clear n0_ n1_ n2_ n3_
              clear ho hb hg hat
              have p18 : 0 ≤ (((rd_T67 l0 x17_1).f0) : Int) := of_decide_eq_true (by assumption)
              have q18 : (((rd_T67 l0 x17_1).f0) : Int) < ((x5_1.length : Int) : Int) := of_decide_eq_true (by assumption)
              replace p18 := eq_true p18
              replace q18 := eq_true q18
              obtain ⟨Ao28, co28, eo28⟩ := Kd.R_slice HO300.out
              (first | subst eo28 | (injection eo28 with f1_ f2_ f3_; have f4_ := f1_.symm; have f5_ := f3_.symm; clear f1_ f2_ f3_; subst f4_; subst f5_))
              obtain ⟨_, _, hraw26, _, _, hcc26, _⟩ := Kd.H_raw HH24.out (of_decide_eq_true (by assumption)) (by have h_ : (((rd_T67 l0 x17_1).f0) : Int) < ((x5_1.length : Int) : Int) := of_decide_eq_true (by assumption); first | exact h_ | (have e_ := (HN24.out); omega) | simpa using h_)
              obtain ⟨_, hfr26⟩ := Kd.H_at HH24.out (of_decide_eq_true (by assumption)) (by have h_ : (((rd_T67 l0 x17_1).f0) : Int) < ((x5_1.length : Int) : Int) := of_decide_eq_true (by assumption); first | exact h_ | (have e_ := (HN24.out); omega) | simpa using h_)
              have hx26_0 := hcc26 0 _ rfl
              have hf26_0 := hfr26 0
              (try simp only [Nat.add_zero] at hx26_0 hf26_0)
              (try rw [show ((Kd.slice 65 k65)).sz = 1 from rfl, Nat.mul_one] at hx26_0)
              (try rw [show ((Kd.slice 65 k65)).sz = 1 from rfl, Nat.mul_one] at hf26_0)
              have HP26 := Kd.S_seg0 HH24.out (of_decide_eq_true (by assumption)) (by have h_ : (((rd_T67 l0 x17_1).f0) : Int) < ((x5_1.length : Int) : Int) := of_decide_eq_true (by assumption); first | exact h_ | (have e_ := (HN24.out); omega) | simpa using h_) (seg := [.slice Ao28 y298.length co28]) (j := 0) (show 1 ≤ 1 from by decide) (x' := y298) (Kd.M_row HO300.out) (fun _ hk => hk)
              (try simp only [show ((Kd.slice 65 k65)).sz = 1 from rfl, Nat.mul_one, Nat.add_zero] at HP26)
              clear hcc26 hfr26
              have HNB296_go24 := asd (show gb296 ≠ go24 from by have h_ := Kd.R_ne hraw26 BK296.out (by decide); intro e_; exact h_ (by rw [e_]; rfl))
              have HS26 := HP26.1
              rw [← Ny301.out] at HS26
              have HQ26 := asd HS26
              obtain ⟨_, hgg26⟩ := Kd.R_typed hraw26 go24 rfl
              have GG26_ := asd hgg26
              clear HP26 HS26 hgg26
              refine hK.out _ _ ⟨(blk_cell BK296.out 0).trans rfl, (blk_cell BK296.out 1).trans rfl, (blk_cell BK296.out 2).trans rfl, (blk_cell BK296.out 3).trans rfl, (blk_cell BK296.out 4).trans rfl, HS5_⟩ (fun hHeld => ?_)
              clear hK K
              refine norm_ (a' := ?_) ?_ ?_
              rotate_left
              ·show Act.put _ (some 41) _ = _
               simp only [Act.put, sB, i64_w, i32_w]
               rfl
              refine pure_ (i := 12) (N := some 42) (v := ?_) (a' := ?_) #[true, true, true, true, true, true, true, true, true, true, true, true, true, false] rfl rfl (any_of HT_.out (by kernel_rfl)) (fun _ _ _ h => h) (Or.inl ⟨by rfl, ?_⟩) ?_ ?_
              rotate_left
              ·intro w'
               go_simp
               with_reducible rfl
              rotate_left
              ·simp only [Act.put, sB, i64_w, i32_w]
               rfl
              refine last_ (i := 13) (N := none) #[true, true, true, true, true, true, true, true, true, true, true, true, true, true] rfl rfl (one_of HT_.out (by kernel_rfl)) (by decide) (fun K hK => ?_)
              refine skip_ (w1 := ?_) (by rfl) rfl ?_ ?_
              rotate_left
              ·go_simp
               rfl
              refine hK.out _ _ ?_
              clear hK K
              refine done_ (done_of HT_.out (by kernel_rfl)) ?_
              try go_wp2
              go_roundg k1
              case measure => have := HK1.out; omega
              case rel => exact ⟨(y301), (wrap64 (x17_1 + 1)), (by first | rfl | (simp; done) | (simp [*]; done)), H', ⟨by have := HK1.out; omega⟩, ⟨by (with_reducible repeat (first | apply Kd.S_alloc | apply Kd.S_drewN | apply Kd.S_drew)); exact HQ26.out⟩, ⟨by repeat (first | (with_reducible first | exact HB.out | apply wa | apply wn | apply wd | refine ws ?_ GB24.out | refine ws ?_ GE296.out) | exact HB.out)⟩⟩
             ·rw [if_neg c17] at H
              exact absurd H (by simp)
            ·rw [if_neg c16] at H
             exact absurd H (by simp)
           ·rw [if_neg c15] at H
            exact absurd H (by simp)
          ·rw [if_neg c14] at H
           have c14b0 : decide (((rd_T67 l0 x17_1).f0) < ji4) = false := decide_eq_false c14
           clear c14
           have H' := asd H
           clear H
           have p295 : 0 ≤ (x17_1 : Int) := of_decide_eq_true (by assumption)
           have q295 : x17_1 < (l0.length : Int) := of_decide_eq_true (by assumption)
           obtain ⟨ad295, e295, hx295_0, hx295_1, hx295_2, hx295_3, hx295_4⟩ := at_T67 HR0.out x17_1 p295 q295
           cases e295
           replace hx295_0 := (HB.out.cell (World.block_lt_of_cell? w _ hx295_0)).trans hx295_0
           replace hx295_1 := (HB.out.cell (World.block_lt_of_cell? w _ hx295_1)).trans hx295_1
           replace hx295_2 := (HB.out.cell (World.block_lt_of_cell? w _ hx295_2)).trans hx295_2
           replace hx295_3 := (HB.out.cell (World.block_lt_of_cell? w _ hx295_3)).trans hx295_3
           replace hx295_4 := (HB.out.cell (World.block_lt_of_cell? w _ hx295_4)).trans hx295_4
           replace p295 := eq_true p295
           replace q295 := eq_true q295
           go_wp2_with (first | ((with_reducible refine gate_dst (N := 7) rfl ?_); refine box_event ?hg (N := 7) ?hd (cs := #[.int .i64 0, .int .i64 0, .int .i64 0, .int .i64 0, .int .i64 0]) (t := 67) ?hr ?_; (case hd => rfl); (case hg => rfl); (case hr => first | (go_simp; done) | (go_simp; rfl)); intro gb296 hg w29 hbox hb; have n0_ := asd (Kd.S_below (by (with_reducible repeat (first | apply Kd.S_alloc | apply Kd.S_drewN | apply Kd.S_drew)); exact HO_5.out) hb); have n1_ := asd (below_step (by repeat (first | (with_reducible first | exact HB.out | apply wa | apply wn | apply wd) | exact HB.out)) hb); have n2_ := asd (hbox); have n3_ := asd ((by rw [hg]; exact (below_size (by repeat (first | (with_reducible first | exact HB.out | apply wa | apply wn | apply wd) | exact HB.out))) : w.heap.size ≤ gb296)); have n4_ := asd ((by rw [hg]; exact (below_size (by repeat (first | (with_reducible first | exact HB.out | apply wa | apply wn | apply wd) | exact HB.out))) : w.heap.size ≤ gb296)); clear HO_5; clear HB; have HO_5 := n0_; have HB := n1_; have BK296 := n2_; have GW296 := n3_; have GE296 := n4_; clear n0_ n1_ n2_ n3_ n4_; clear hb hbox hg; have hcz30_0 : w29.cell? ⟨gb296, 0, none⟩ = some (.int .i64 0) := (blk_cell BK296.out 0).trans rfl; have hcz30_1 : w29.cell? ⟨gb296, 1, none⟩ = some (.int .i64 0) := (blk_cell BK296.out 1).trans rfl; have hcz30_2 : w29.cell? ⟨gb296, 2, none⟩ = some (.int .i64 0) := (blk_cell BK296.out 2).trans rfl; have hcz30_3 : w29.cell? ⟨gb296, 3, none⟩ = some (.int .i64 0) := (blk_cell BK296.out 3).trans rfl; have hcz30_4 : w29.cell? ⟨gb296, 4, none⟩ = some (.int .i64 0) := (blk_cell BK296.out 4).trans rfl; have hfz30_0 := blk_frozen BK296.out 0; have hfz30_1 := blk_frozen BK296.out 1; have hfz30_2 := blk_frozen BK296.out 2; have hfz30_3 := blk_frozen BK296.out 3; have hfz30_4 := blk_frozen BK296.out 4))
           go_roundg k1
           case measure => have := HK1.out; omega
           case rel => exact ⟨(x5_1), (wrap64 (x17_1 + 1)), (by first | rfl | (simp; done) | (simp [*]; done)), H', ⟨by have := HK1.out; omega⟩, ⟨by (with_reducible repeat (first | apply Kd.S_alloc | apply Kd.S_drewN | apply Kd.S_drew)); exact Kd.S_mono (Kd.S_far (p := ⟨gb296, 4, none⟩) (Kd.S_far (p := ⟨gb296, 3, none⟩) (Kd.S_far (p := ⟨gb296, 2, none⟩) (Kd.S_far (p := ⟨gb296, 1, none⟩) (Kd.S_far (p := ⟨gb296, 0, none⟩) (Kd.S_types HO_5.out BK296.out (by decide)) (fun _ hk => hk.2) (.int .i64 ((rd_T67 l0 x17_1).f0))) (fun _ hk => hk.2) (.int .i64 ((rd_T67 l0 x17_1).f1.f0))) (fun _ hk => hk.2) (.int .i64 ((rd_T67 l0 x17_1).f1.f1))) (fun _ hk => hk.2) (.int .i64 ((rd_T67 l0 x17_1).f1.f2))) (fun _ hk => hk.2) (.int .i64 ((rd_T67 l0 x17_1).f1.f3))) (fun _ hk => trivial)⟩, ⟨by repeat (first | (with_reducible first | exact HB.out | apply wa | apply wn | apply wd | refine ws ?_ GE296.out) | exact HB.out)⟩⟩
         ·rw [if_neg c13] at H
          have c13b0 : decide (0 ≤ ((rd_T67 l0 x17_1).f0)) = false := decide_eq_false c13
          clear c13
          have H' := asd H
          clear H
          have p295 : 0 ≤ (x17_1 : Int) := of_decide_eq_true (by assumption)
          have q295 : x17_1 < (l0.length : Int) := of_decide_eq_true (by assumption)
          obtain ⟨ad295, e295, hx295_0, hx295_1, hx295_2, hx295_3, hx295_4⟩ := at_T67 HR0.out x17_1 p295 q295
          cases e295
          replace hx295_0 := (HB.out.cell (World.block_lt_of_cell? w _ hx295_0)).trans hx295_0
          replace hx295_1 := (HB.out.cell (World.block_lt_of_cell? w _ hx295_1)).trans hx295_1
          replace hx295_2 := (HB.out.cell (World.block_lt_of_cell? w _ hx295_2)).trans hx295_2
          replace hx295_3 := (HB.out.cell (World.block_lt_of_cell? w _ hx295_3)).trans hx295_3
          replace hx295_4 := (HB.out.cell (World.block_lt_of_cell? w _ hx295_4)).trans hx295_4
          replace p295 := eq_true p295
          replace q295 := eq_true q295
          go_wp2_with (first | ((with_reducible refine gate_dst (N := 7) rfl ?_); refine box_event ?hg (N := 7) ?hd (cs := #[.int .i64 0, .int .i64 0, .int .i64 0, .int .i64 0, .int .i64 0]) (t := 67) ?hr ?_; (case hd => rfl); (case hg => rfl); (case hr => first | (go_simp; done) | (go_simp; rfl)); intro gb296 hg w31 hbox hb; have n0_ := asd (Kd.S_below (by (with_reducible repeat (first | apply Kd.S_alloc | apply Kd.S_drewN | apply Kd.S_drew)); exact HO_5.out) hb); have n1_ := asd (below_step (by repeat (first | (with_reducible first | exact HB.out | apply wa | apply wn | apply wd) | exact HB.out)) hb); have n2_ := asd (hbox); have n3_ := asd ((by rw [hg]; exact (below_size (by repeat (first | (with_reducible first | exact HB.out | apply wa | apply wn | apply wd) | exact HB.out))) : w.heap.size ≤ gb296)); have n4_ := asd ((by rw [hg]; exact (below_size (by repeat (first | (with_reducible first | exact HB.out | apply wa | apply wn | apply wd) | exact HB.out))) : w.heap.size ≤ gb296)); clear HO_5; clear HB; have HO_5 := n0_; have HB := n1_; have BK296 := n2_; have GW296 := n3_; have GE296 := n4_; clear n0_ n1_ n2_ n3_ n4_; clear hb hbox hg; have hcz32_0 : w31.cell? ⟨gb296, 0, none⟩ = some (.int .i64 0) := (blk_cell BK296.out 0).trans rfl; have hcz32_1 : w31.cell? ⟨gb296, 1, none⟩ = some (.int .i64 0) := (blk_cell BK296.out 1).trans rfl; have hcz32_2 : w31.cell? ⟨gb296, 2, none⟩ = some (.int .i64 0) := (blk_cell BK296.out 2).trans rfl; have hcz32_3 : w31.cell? ⟨gb296, 3, none⟩ = some (.int .i64 0) := (blk_cell BK296.out 3).trans rfl; have hcz32_4 : w31.cell? ⟨gb296, 4, none⟩ = some (.int .i64 0) := (blk_cell BK296.out 4).trans rfl; have hfz32_0 := blk_frozen BK296.out 0; have hfz32_1 := blk_frozen BK296.out 1; have hfz32_2 := blk_frozen BK296.out 2; have hfz32_3 := blk_frozen BK296.out 3; have hfz32_4 := blk_frozen BK296.out 4))
          go_roundg k1
          case measure => have := HK1.out; omega
          case rel => exact ⟨(x5_1), (wrap64 (x17_1 + 1)), (by first | rfl | (simp; done) | (simp [*]; done)), H', ⟨by have := HK1.out; omega⟩, ⟨by (with_reducible repeat (first | apply Kd.S_alloc | apply Kd.S_drewN | apply Kd.S_drew)); exact Kd.S_mono (Kd.S_far (p := ⟨gb296, 4, none⟩) (Kd.S_far (p := ⟨gb296, 3, none⟩) (Kd.S_far (p := ⟨gb296, 2, none⟩) (Kd.S_far (p := ⟨gb296, 1, none⟩) (Kd.S_far (p := ⟨gb296, 0, none⟩) (Kd.S_types HO_5.out BK296.out (by decide)) (fun _ hk => hk.2) (.int .i64 ((rd_T67 l0 x17_1).f0))) (fun _ hk => hk.2) (.int .i64 ((rd_T67 l0 x17_1).f1.f0))) (fun _ hk => hk.2) (.int .i64 ((rd_T67 l0 x17_1).f1.f1))) (fun _ hk => hk.2) (.int .i64 ((rd_T67 l0 x17_1).f1.f2))) (fun _ hk => hk.2) (.int .i64 ((rd_T67 l0 x17_1).f1.f3))) (fun _ hk => trivial)⟩, ⟨by repeat (first | (with_reducible first | exact HB.out | apply wa | apply wn | apply wd | refine ws ?_ GE296.out) | exact HB.out)⟩⟩
        ·rw [if_neg c12] at H
         exact absurd H (by simp)
       ·rw [if_neg c11] at H
        exact absurd H (by simp)
      ·rw [if_neg c10] at H
       have c10b0 : decide (x17_1 < (l0.length : Int)) = false := decide_eq_false c10
       clear c10
       obtain rfl := Option.some.inj H
       go_wp2
       go_ret
       exact ⟨_, by first | rfl | (simp [errW_none, errW_some] <;> rfl) | (simp only [← hji3, ← hji4]; first | rfl | (simp [errW_none, errW_some] <;> rfl)) | (simp [*, errW_none, errW_some] <;> rfl), by (with_reducible repeat (first | apply Kd.S_alloc | apply Kd.S_drewN | apply Kd.S_drew)); exact HO_5.out, by repeat (first | (with_reducible first | exact HB.out | apply wa | apply wn | apply wd) | exact HB.out)⟩
   ·rw [if_neg c7] at H
    exact absurd H (by simp)
  ·rw [if_neg c6] at H
   exact absurd H (by simp)
end Go.Proofs.Ytalimpniimgheaa.Fn
namespace Go.Proofs.Ytalimpniimgheaa.Fn
open Go.RowKit Go.Proofs.YtalimpniimgheaaW.PrintWords Go.Proofs.YtalimpniimgheaaW.PrintLast Go.Proofs.YtalimpniimgheaaW.PrintMore
attribute [local go_sem] max2_int min2_int max_two min_two max_three min_three max_four min_four
set_option linter.unusedVariables false
set_option linter.unusedSimpArgs false
def parcloselaw40_rows.l0 : Nat → List (S117) → List (S67) → Int → Option ((List (S67)))
 | 0, _, _, _ => none
 | k + 1, x0, x3, x4 => if x4 < (x0.length : Int) then (if 0 ≤ x4 then (if x3.length < 3518437208883 then (parcloselaw40_rows.l0 k x0 (x3 ++ [(⟨(rd_T117 x0 x4).f0, (⟨(rd_T117 x0 x4).f1.f0, (rd_T117 x0 x4).f1.f1, (rd_T117 x0 x4).f1.f2, (rd_T117 x0 x4).f1.f3⟩ : S65)⟩ : S67)]) (wrap64 (x4 + 1))) else (none)) else (none)) else (some x3)
def parcloselaw40_rows.f (k : Nat) (l0 : List (S117)) : Option ((List (S67))) := parcloselaw40_rows.l0 k l0 ([] : List (S67)) 0
def parcloselaw40_rows.T5 : Bool × List (List Nat × List Nat) := (true, [([], []), ([], []), ([], []), ([1, 2], [1, 2]), ([3], [3]), ([4], [4]), ([], []), ([], []), ([6, 7], [6, 7]), ([8], [8]), ([9], [9]), ([5, 10], [5, 10]), ([11], [11]), ([0, 12], [0, 12]), ([13, 13, 0, 1, 2, 3, 4, 5, 6, 7, 8, 9, 10, 11, 12, 13], [0, 13])])
def parcloselaw40_rows.B5 : List Nat := [0, 0, 0, 6, 14, 30, 0, 0, 192, 448, 960, 2046, 4094, 8191, 16383]
end Go.Proofs.Ytalimpniimgheaa.Fn
namespace Go.Proofs.Ytalimpniimgheaa.Fn
open Go.RowKit Go.Proofs.YtalimpniimgheaaW.PrintWords Go.Proofs.YtalimpniimgheaaW.PrintLast Go.Proofs.YtalimpniimgheaaW.PrintMore
attribute [local go_sem] max2_int min2_int max_two min_two max_three min_three max_four min_four
set_option linter.unusedVariables false
set_option linter.unusedSimpArgs false
mutual
def parcloseref40_Split.l0 : Nat → List (S117) → Int → List (List (S64)) → Int → Option ((List (List (S64))))
 | 0, _, _, _, _ => none
 | k + 1, x0, x1, x5, x6 => if x6 < x1 then (parcloseref40_Split.l1 k x0 x1 x5 x6 ([] : List (S64)) 0) else (some x5)
def parcloseref40_Split.l1 : Nat → List (S117) → Int → List (List (S64)) → Int → List (S64) → Int → Option ((List (List (S64))))
 | 0, _, _, _, _, _, _ => none
 | k + 1, x0, x1, x5, x6, x7, x8 => if x8 < (x0.length : Int) then (if 0 ≤ x8 then (if ((rd_T117 x0 x8).f0) = x6 then (if x7.length < 4398046511104 then (parcloseref40_Split.l1 k x0 x1 x5 x6 (x7 ++ [(⟨(rd_T117 x0 x8).f1.f0, (rd_T117 x0 x8).f1.f1, (rd_T117 x0 x8).f1.f2, (rd_T117 x0 x8).f1.f3⟩ : S64)]) (wrap64 (x8 + 1))) else (none)) else (parcloseref40_Split.l1 k x0 x1 x5 x6 x7 (wrap64 (x8 + 1)))) else (none)) else (if x5.length < 5864062014805 then (parcloseref40_Split.l0 k x0 x1 (x5 ++ [x7]) (wrap64 (x6 + 1))) else (none))
end
def parcloseref40_Split.f (k : Nat) (l0 : List (S117)) (a1 : Int) : Option ((List (List (S64)))) := parcloseref40_Split.l0 k l0 (mn (mx a1 0) 64) ([] : List (List (S64))) 0
end Go.Proofs.Ytalimpniimgheaa.Fn
namespace Go.Proofs.Ytalimpniimgheaa.Fn
open Go.RowKit Go.Proofs.YtalimpniimgheaaW.PrintWords Go.Proofs.YtalimpniimgheaaW.PrintLast Go.Proofs.YtalimpniimgheaaW.PrintMore
attribute [local go_sem] max2_int min2_int max_two min_two max_three min_three max_four min_four
set_option linter.unusedVariables false
set_option linter.unusedSimpArgs false
mutual
def parcloseref40_Count.l0 : Nat → List (S117) → Int → Int → Int → Option (List Int)
 | 0, _, _, _, _ => none
 | k + 1, x0, x1, x5, x6 => if x6 < (x0.length : Int) then (if 0 ≤ x6 then (if ((rd_T117 x0 x6).f0) ≥ 0 then (if ((rd_T117 x0 x6).f0) < 64 then (parcloseref40_Count.l0 k x0 x1 (mx x5 ((rd_T117 x0 x6).f0)) (wrap64 (x6 + 1))) else (parcloseref40_Count.l0 k x0 x1 x5 (wrap64 (x6 + 1)))) else (parcloseref40_Count.l0 k x0 x1 x5 (wrap64 (x6 + 1)))) else (none)) else (if 0 ≤ (wrap64 (x5 + 1)) then (if (wrap64 (x5 + 1) : Int).toNat ≤ 35184372088832 then (parcloseref40_Count.l1 k x0 x1 (List.replicate (wrap64 (x5 + 1) : Int).toNat 0) 0) else (none)) else (none))
def parcloseref40_Count.l1 : Nat → List (S117) → Int → List Int → Int → Option (List Int)
 | 0, _, _, _, _ => none
 | k + 1, x0, x1, x7, x8 => if x8 < (x0.length : Int) then (if 0 ≤ x8 then (if ((rd_T117 x0 x8).f0) ≥ 0 then (if ((rd_T117 x0 x8).f0) < 64 then (if ((rd_T117 x0 x8).f1.f1) = x1 then (if 0 ≤ ((rd_T117 x0 x8).f0) then (if ((rd_T117 x0 x8).f0) < (x7.length : Int) then (parcloseref40_Count.l1 k x0 x1 (x7.set (((rd_T117 x0 x8).f0) : Int).toNat (wrap64 ((rd x7 ((rd_T117 x0 x8).f0)) + 1))) (wrap64 (x8 + 1))) else (none)) else (none)) else (parcloseref40_Count.l1 k x0 x1 x7 (wrap64 (x8 + 1)))) else (parcloseref40_Count.l1 k x0 x1 x7 (wrap64 (x8 + 1)))) else (parcloseref40_Count.l1 k x0 x1 x7 (wrap64 (x8 + 1)))) else (none)) else (some x7)
end
def parcloseref40_Count.f (k : Nat) (l0 : List (S117)) (a1 : Int) : Option (List Int) := parcloseref40_Count.l0 k l0 a1 (-1) 0
end Go.Proofs.Ytalimpniimgheaa.Fn
namespace Go.Proofs.Ytalimpniimgheaa.Fn
open Go.RowKit Go.Proofs.YtalimpniimgheaaW.PrintWords Go.Proofs.YtalimpniimgheaaW.PrintLast Go.Proofs.YtalimpniimgheaaW.PrintMore
attribute [local go_sem] max2_int min2_int max_two min_two max_three min_three max_four min_four
set_option linter.unusedVariables false
set_option linter.unusedSimpArgs false
def parcloseref40_Between.l0 : Nat → List (S117) → Int → Int → List (S117) → Int → Option ((List (S117)))
 | 0, _, _, _, _, _ => none
 | k + 1, x0, x1, x2, x7, x8 => if x8 < (x0.length : Int) then (if 0 ≤ x8 then (if ((rd_T117 x0 x8).f1.f0) ≥ x1 then (if ((rd_T117 x0 x8).f1.f0) < x2 then (if x7.length < 3518437208883 then (parcloseref40_Between.l0 k x0 x1 x2 (x7 ++ [(⟨(rd_T117 x0 x8).f0, (⟨(rd_T117 x0 x8).f1.f0, (rd_T117 x0 x8).f1.f1, (rd_T117 x0 x8).f1.f2, (rd_T117 x0 x8).f1.f3⟩ : S64)⟩ : S117)]) (wrap64 (x8 + 1))) else (none)) else (parcloseref40_Between.l0 k x0 x1 x2 x7 (wrap64 (x8 + 1)))) else (parcloseref40_Between.l0 k x0 x1 x2 x7 (wrap64 (x8 + 1)))) else (none)) else (some x7)
def parcloseref40_Between.f (k : Nat) (l0 : List (S117)) (a1 : Int) (a2 : Int) : Option ((List (S117))) := parcloseref40_Between.l0 k l0 a1 a2 ([] : List (S117)) 0
end Go.Proofs.Ytalimpniimgheaa.Fn
namespace Go.Proofs.Ytalimpniimgheaa.Fn
open Go.RowKit Go.Proofs.YtalimpniimgheaaW.PrintWords Go.Proofs.YtalimpniimgheaaW.PrintLast Go.Proofs.YtalimpniimgheaaW.PrintMore
attribute [local go_sem] max2_int min2_int max_two min_two max_three min_three max_four min_four
set_option linter.unusedVariables false
set_option linter.unusedSimpArgs false
attribute [local go_sem high] eqA64
def parcloseref23_Same.l0 : Nat → List (S64) → List (S64) → Int → Option (Bool)
 | 0, _, _, _ => none
 | k + 1, x0, x1, x5 => if x5 < (x0.length : Int) then (if 0 ≤ x5 then (if x5 < (x1.length : Int) then (if (!(((rd_T64 x0 x5).f0) == ((rd_T64 x1 x5).f0)) || (!(((rd_T64 x0 x5).f1) == ((rd_T64 x1 x5).f1)) || (!(((rd_T64 x0 x5).f2) == ((rd_T64 x1 x5).f2)) || (!(((rd_T64 x0 x5).f3) == ((rd_T64 x1 x5).f3)))))) = true then (some false) else (parcloseref23_Same.l0 k x0 x1 (wrap64 (x5 + 1)))) else (none)) else (none)) else (some true)
def parcloseref23_Same.f (k : Nat) (l0 : List (S64)) (l1 : List (S64)) : Option (Bool) := if (l0.length : Int) = (l1.length : Int) then (parcloseref23_Same.l0 k l0 l1 0) else (some false)
set_option maxHeartbeats 8000000 in
set_option maxRecDepth 100000 in
theorem parcloseref23_Same.calls (k : Nat) (A0 : Option Addr) (c0 : Nat) (l0 : List (S64)) (A1 : Option Addr) (c1 : Nat) (l1 : List (S64)) (r : Bool) (w : World) (hr0 : Kd.C k64 w A0 l0.length l0) (hc0 : l0.length ≤ c0) (hr1 : Kd.C k64 w A1 l1.length l1) (hc1 : l1.length ≤ c1) (h : parcloseref23_Same.f k l0 l1 = some r) :
  Calls Try.prog 22 #[.slice A0 l0.length c0, .slice A1 l1.length c1] w fun e w' => e = .returned (.bool r) ∧ Drawn0 w w' := by
 have hu64 := Try.underlying64
 have HR0 := asd hr0
 have HC0 := asd hc0
 clear hr0 hc0
 have HR1 := asd hr1
 have HC1 := asd hc1
 clear hr1 hc1
 have H : (if (l0.length : Int) = (l1.length : Int) then (parcloseref23_Same.l0 k l0 l1 0) else (some false)) = some r := h
 clear h
 by_cases c3 : (l0.length : Int) = (l1.length : Int)
 ·rw [if_pos c3] at H
  have c3b0 : ((l0.length : Int) == (l1.length : Int)) = true := beq_iff_eq.mpr c3
  have c3b1 : ((l0.length : Int) != (l1.length : Int)) = false := bne_eq_false_iff_eq.mpr c3
  have c3b2 : (l0.length == l1.length) = true := by first | simpa using c3 | (simp at c3 ⊢; omega)
  clear c3
  have H' := asd H
  clear H
  go_enter Try.func22, Try.ntmps22
  go_wp2
  repeat (go_quiet (fail); try go_wp2)
  go_loopg [5] k (fun kq v5 w' => ∃ (x5_1 : Int), v5 = .int .i64 x5_1 ∧ Aside0 (parcloseref23_Same.l0 kq l0 l1 x5_1 = some r) ∧ Aside0 (kq ≤ k) ∧ Drawn0 w w')
  case atStart => exact ⟨(0), (by first | rfl | (simp; done) | (simp [*]; done)), H', ⟨Nat.le_refl _⟩, by repeat (first | exact Drawn0.refl _ | apply Drawn0.step)⟩
  case round =>
   clear H'
   try clear c1
   try clear c2
   try clear p2
   try clear c3
   try clear c3b0
   try clear c3b1
   try clear c3b2
   obtain ⟨x5_1, rfl, HA, HK1, ⟨m1, rfl⟩⟩ := hrel
   cases gk with
   | zero => exact absurd HA.out (by simp [parcloseref23_Same.l0])
   | succ k1 =>
    have H := HA.out
    clear HA
    simp only [parcloseref23_Same.l0] at H
    by_cases c4 : x5_1 < (l0.length : Int)
    ·rw [if_pos c4] at H
     have c4b0 : decide (x5_1 < (l0.length : Int)) = true := decide_eq_true c4
     clear c4
     by_cases c5 : 0 ≤ x5_1
     ·rw [if_pos c5] at H
      have c5b0 : decide (0 ≤ x5_1) = true := decide_eq_true c5
      clear c5
      by_cases c6 : x5_1 < (l1.length : Int)
      ·rw [if_pos c6] at H
       have c6b0 : decide (x5_1 < (l1.length : Int)) = true := decide_eq_true c6
       clear c6
       by_cases c7 : (!(((rd_T64 l0 x5_1).f0) == ((rd_T64 l1 x5_1).f0)) || (!(((rd_T64 l0 x5_1).f1) == ((rd_T64 l1 x5_1).f1)) || (!(((rd_T64 l0 x5_1).f2) == ((rd_T64 l1 x5_1).f2)) || (!(((rd_T64 l0 x5_1).f3) == ((rd_T64 l1 x5_1).f3)))))) = true
       ·rw [if_pos c7] at H
        have c7b0 : (!(((rd_T64 l0 x5_1).f0) == ((rd_T64 l1 x5_1).f0)) || (!(((rd_T64 l0 x5_1).f1) == ((rd_T64 l1 x5_1).f1)) || (!(((rd_T64 l0 x5_1).f2) == ((rd_T64 l1 x5_1).f2)) || (!(((rd_T64 l0 x5_1).f3) == ((rd_T64 l1 x5_1).f3)))))) = true := c7
        clear c7
        obtain rfl := Option.some.inj H
        have p116 : 0 ≤ (x5_1 : Int) := of_decide_eq_true (by assumption)
        have q116 : x5_1 < (l0.length : Int) := of_decide_eq_true (by assumption)
        obtain ⟨ad116, e116, hx116_0, hx116_1, hx116_2, hx116_3⟩ := at_T64 HR0.out x5_1 p116 q116
        cases e116
        replace p116 := eq_true p116
        replace q116 := eq_true q116
        have p117 : 0 ≤ (x5_1 : Int) := of_decide_eq_true (by assumption)
        have q117 : x5_1 < (l1.length : Int) := of_decide_eq_true (by assumption)
        obtain ⟨ad117, e117, hx117_0, hx117_1, hx117_2, hx117_3⟩ := at_T64 HR1.out x5_1 p117 q117
        cases e117
        replace p117 := eq_true p117
        replace q117 := eq_true q117
        go_wp2
        repeat (go_quiet (fail); try go_wp2)
        go_ret
        exact ⟨by first | rfl | (simp; done) | (simp [*]; done), by repeat (first | exact Drawn0.refl _ | apply Drawn0.step)⟩
       ·rw [if_neg c7] at H
        have c7b0 : (!(((rd_T64 l0 x5_1).f0) == ((rd_T64 l1 x5_1).f0)) || (!(((rd_T64 l0 x5_1).f1) == ((rd_T64 l1 x5_1).f1)) || (!(((rd_T64 l0 x5_1).f2) == ((rd_T64 l1 x5_1).f2)) || (!(((rd_T64 l0 x5_1).f3) == ((rd_T64 l1 x5_1).f3)))))) = false := by simpa using c7
        clear c7
        have H' := asd H
        clear H
        have p116 : 0 ≤ (x5_1 : Int) := of_decide_eq_true (by assumption)
        have q116 : x5_1 < (l0.length : Int) := of_decide_eq_true (by assumption)
        obtain ⟨ad116, e116, hx116_0, hx116_1, hx116_2, hx116_3⟩ := at_T64 HR0.out x5_1 p116 q116
        cases e116
        replace p116 := eq_true p116
        replace q116 := eq_true q116
        have p117 : 0 ≤ (x5_1 : Int) := of_decide_eq_true (by assumption)
        have q117 : x5_1 < (l1.length : Int) := of_decide_eq_true (by assumption)
        obtain ⟨ad117, e117, hx117_0, hx117_1, hx117_2, hx117_3⟩ := at_T64 HR1.out x5_1 p117 q117
        cases e117
        replace p117 := eq_true p117
        replace q117 := eq_true q117
        go_wp2
        repeat (go_quiet (fail); try go_wp2)
        go_roundg k1
        case measure => have := HK1.out; omega
        case rel => exact ⟨(wrap64 (x5_1 + 1)), (by first | rfl | (simp; done) | (simp [*]; done)), H', ⟨by have := HK1.out; omega⟩, by repeat (first | exact Drawn0.refl _ | apply Drawn0.step)⟩
      ·rw [if_neg c6] at H
       exact absurd H (by simp)
     ·rw [if_neg c5] at H
      exact absurd H (by simp)
    ·rw [if_neg c4] at H
     have c4b0 : decide (x5_1 < (l0.length : Int)) = false := decide_eq_false c4
     clear c4
     obtain rfl := Option.some.inj H
     go_wp2
     repeat (go_quiet (fail); try go_wp2)
     go_ret
     exact ⟨by first | rfl | (simp; done) | (simp [*]; done), by repeat (first | exact Drawn0.refl _ | apply Drawn0.step)⟩
 ·rw [if_neg c3] at H
  have c3b0 : ((l0.length : Int) == (l1.length : Int)) = false := beq_eq_false_iff_ne.mpr c3
  have c3b1 : ((l0.length : Int) != (l1.length : Int)) = true := bne_iff_ne.mpr c3
  have c3b2 : (l0.length == l1.length) = false := by first | simpa using c3 | (simp at c3 ⊢; omega)
  obtain rfl := Option.some.inj H
  go_enter Try.func22, Try.ntmps22
  go_wp2
  repeat (go_quiet (fail); try go_wp2)
  go_ret
  exact ⟨by first | rfl | (simp; done) | (simp [*]; done), by repeat (first | exact Drawn0.refl _ | apply Drawn0.step)⟩
end Go.Proofs.Ytalimpniimgheaa.Fn
namespace Go.Proofs.Ytalimpniimgheaa.Fn
open Go.RowKit Go.Proofs.YtalimpniimgheaaW.PrintWords Go.Proofs.YtalimpniimgheaaW.PrintLast Go.Proofs.YtalimpniimgheaaW.PrintMore
attribute [local go_sem] max2_int min2_int max_two min_two max_three min_three max_four min_four
set_option linter.unusedVariables false
set_option linter.unusedSimpArgs false
def parcloselaw23_Refs.l0 : Nat → List (S65) → List (S64) → Int → Option ((List (S64)))
 | 0, _, _, _ => none
 | k + 1, x0, x3, x4 => if x4 < (x0.length : Int) then (if 0 ≤ x4 then (if x3.length < 4398046511104 then (parcloselaw23_Refs.l0 k x0 (x3 ++ [(⟨(rd_T65 x0 x4).f0, (rd_T65 x0 x4).f1, (rd_T65 x0 x4).f2, (rd_T65 x0 x4).f3⟩ : S64)]) (wrap64 (x4 + 1))) else (none)) else (none)) else (some x3)
def parcloselaw23_Refs.f (k : Nat) (l0 : List (S65)) : Option ((List (S64))) := parcloselaw23_Refs.l0 k l0 ([] : List (S64)) 0
set_option maxHeartbeats 8000000 in
set_option maxRecDepth 100000 in
theorem parcloselaw23_Refs.calls (k : Nat) (A0 : Option Addr) (c0 : Nat) (l0 : List (S65)) (r : List (S64)) (w : World) (hr0 : Kd.C k65 w A0 l0.length l0) (hc0 : l0.length ≤ c0) (h : parcloselaw23_Refs.f k l0 = some r) :
  Calls Try.prog 23 #[.slice A0 l0.length c0] w fun e w' => ∃ v0_ : Value, e = .returned (v0_) ∧ Kd.R k64 64 w' w.heap.size (fun _ => True) v0_ r ∧ Below w.heap.size w w' := by
 have hu65 := Try.underlying65
 have HR0 := asd hr0
 have HC0 := asd hc0
 clear hr0 hc0
 have HB := asd (Below.refl w.heap.size w)
 have H : (parcloselaw23_Refs.l0 k l0 ([] : List (S64)) 0) = some r := h
 clear h
 have H' := asd H
 clear H
 go_enter Try.func23, Try.ntmps23
 go_wp2
 go_loopg [3, 4] k (fun kq v3 v4 w' => ∃ (x3_1 : List (S64)) (x4_1 : Int), v4 = .int .i64 x4_1 ∧ Aside0 (parcloselaw23_Refs.l0 kq l0 x3_1 x4_1 = some r) ∧ Aside0 (kq ≤ k) ∧ Aside0 (Kd.R k64 64 w' w.heap.size (fun _ => True) v3 x3_1) ∧ Aside0 (Below w.heap.size w w'))
 case atStart => exact ⟨(([] : List (S64))), (0), (by first | rfl | (simp; done) | (simp [*]; done)), H', ⟨Nat.le_refl _⟩, ⟨by first | exact Kd.R_nil _ _ _ _ _ | exact Kd.N_nil _ _ _ _ _ | exact Kd.V_nil _ _ _ _ _ | exact Kd.Q_nil _ _ _ _ _ | exact Kd.S_nil _ _ _ _ _⟩, ⟨by repeat (first | (with_reducible first | exact HB.out | apply wa | apply wn | apply wd) | exact HB.out)⟩⟩
 case round =>
  clear H'
  obtain ⟨x3_1, x4_1, rfl, HA, HK1, HO_3, HB⟩ := hrel
  cases gk with
  | zero => exact absurd HA.out (by simp [parcloselaw23_Refs.l0])
  | succ k1 =>
   have H := HA.out
   clear HA
   simp only [parcloselaw23_Refs.l0] at H
   by_cases c2 : x4_1 < (l0.length : Int)
   ·rw [if_pos c2] at H
    have c2b0 : decide (x4_1 < (l0.length : Int)) = true := decide_eq_true c2
    clear c2
    by_cases c3 : 0 ≤ x4_1
    ·rw [if_pos c3] at H
     have c3b0 : decide (0 ≤ x4_1) = true := decide_eq_true c3
     clear c3
     by_cases c4 : x3_1.length < 4398046511104
     ·rw [if_pos c4] at H
      have LMc4 := asd c4
      clear c4
      obtain ⟨y119, hy119⟩ : ∃ y_ : List (S64), y_ = (x3_1 ++ [(⟨(rd_T65 l0 x4_1).f0, (rd_T65 l0 x4_1).f1, (rd_T65 l0 x4_1).f2, (rd_T65 l0 x4_1).f3⟩ : S64)]) := ⟨_, rfl⟩
      replace H : (parcloselaw23_Refs.l0 k1 l0 y119 (wrap64 (x4_1 + 1))) = some r := by first | (rw [hy119]; with_reducible exact H) | (have H2_ := (Option.bind_some _ _).symm.trans H; rw [hy119]; with_reducible exact H2_) | (have H2_ := (Option.bind_some _ _).symm.trans H; with_reducible exact H2_) | with_reducible exact H | (rw [hy119]; exact H) | exact H
      have Ny119 := asd hy119
      clear hy119
      have H' := asd H
      clear H
      have p118 : 0 ≤ (x4_1 : Int) := of_decide_eq_true (by assumption)
      have q118 : x4_1 < (l0.length : Int) := of_decide_eq_true (by assumption)
      obtain ⟨ad118, e118, hx118_0, hx118_1, hx118_2, hx118_3⟩ := at_T65 HR0.out x4_1 p118 q118
      cases e118
      replace hx118_0 := (HB.out.cell (World.block_lt_of_cell? w _ hx118_0)).trans hx118_0
      replace hx118_1 := (HB.out.cell (World.block_lt_of_cell? w _ hx118_1)).trans hx118_1
      replace hx118_2 := (HB.out.cell (World.block_lt_of_cell? w _ hx118_2)).trans hx118_2
      replace hx118_3 := (HB.out.cell (World.block_lt_of_cell? w _ hx118_3)).trans hx118_3
      replace p118 := eq_true p118
      replace q118 := eq_true q118
      go_wp2_with (first | ((with_reducible refine gate_builtin (b := .append) (xs := #[.tmp 11, .tmp 16]) rfl ?_); at_builtin; refine Kd.R_append k64 (w0 := w) w.heap.size rfl (.tmp 11) (.tmp 16) 29 64 (.agg #[(.int .i64 0), (.int .i64 0), (.int .i64 0), (.int .i64 0)]) 32 rfl Try.underlying29 info64 rfl (by decide) (by omega) u3 x3_1 (⟨(rd_T65 l0 x4_1).f0, (rd_T65 l0 x4_1).f1, (rd_T65 l0 x4_1).f2, (rd_T65 l0 x4_1).f3⟩ : S64) [.int .i64 ((rd_T65 l0 x4_1).f0), .int .i64 ((rd_T65 l0 x4_1).f1), .int .i64 ((rd_T65 l0 x4_1).f2), .int .i64 ((rd_T65 l0 x4_1).f3)] (fun _ => True) (fun _ => False) rfl rfl ?aP (fun _ hk => hk.elim) ?aF ?aO ?aB ?aS ?aL ?_; (case aP => exact k64_mkM _ _ _ (⟨(rd_T65 l0 x4_1).f0, (rd_T65 l0 x4_1).f1, (rd_T65 l0 x4_1).f2, (rd_T65 l0 x4_1).f3⟩ : S64)); (case aB => exact (by repeat (first | (with_reducible first | exact HB.out | apply wa | apply wn | apply wd) | exact HB.out))); (case aF => exact (fun _ _ => trivial)); (case aO => exact (by (with_reducible repeat (first | apply Kd.R_alloc | apply Kd.R_drewN | apply Kd.R_drew)); exact HO_3.out)); (case aS => exact (below_size (by repeat (first | (with_reducible first | exact HB.out | apply wa | apply wn | apply wd) | exact HB.out)))); (case aL => have := LMc4.out; omega); intro v120 w5 ho hb hg hat; rw [← Ny119.out] at ho; have n0_ := asd (hb); have n1_ := asd (ho); clear HB; clear HO_3; have HB := n0_; have HO121 := n1_; clear n0_ n1_; clear ho hb hg hat))
      go_roundg k1
      case measure => have := HK1.out; omega
      case rel => exact ⟨(y119), (wrap64 (x4_1 + 1)), (by first | rfl | (simp; done) | (simp [*]; done)), H', ⟨by have := HK1.out; omega⟩, ⟨by (with_reducible repeat (first | apply Kd.R_alloc | apply Kd.R_drewN | apply Kd.R_drew)); exact HO121.out⟩, ⟨by repeat (first | (with_reducible first | exact HB.out | apply wa | apply wn | apply wd) | exact HB.out)⟩⟩
     ·rw [if_neg c4] at H
      exact absurd H (by simp)
    ·rw [if_neg c3] at H
     exact absurd H (by simp)
   ·rw [if_neg c2] at H
    have c2b0 : decide (x4_1 < (l0.length : Int)) = false := decide_eq_false c2
    clear c2
    obtain rfl := Option.some.inj H
    go_wp2
    go_ret
    exact ⟨_, by first | rfl | (simp [*] <;> rfl), by (with_reducible repeat (first | apply Kd.R_alloc | apply Kd.R_drewN | apply Kd.R_drew)); exact HO_3.out, by repeat (first | (with_reducible first | exact HB.out | apply wa | apply wn | apply wd) | exact HB.out)⟩
end Go.Proofs.Ytalimpniimgheaa.Fn
namespace Go.Proofs.Ytalimpniimgheaa.Fn
open Go.RowKit Go.Proofs.YtalimpniimgheaaW.PrintWords Go.Proofs.YtalimpniimgheaaW.PrintLast Go.Proofs.YtalimpniimgheaaW.PrintMore
set_option linter.unusedVariables false
set_option linter.unusedSimpArgs false
instance : DecidableEq S64 := fun a b => decidable_of_iff (a.f0 = b.f0 ∧ a.f1 = b.f1 ∧ a.f2 = b.f2 ∧ a.f3 = b.f3) (by cases a; cases b; simp)
def toR4 (x : S65) : S64 := ⟨x.f0, x.f1, x.f2, x.f3⟩
theorem refs23_ev (l : List S65) (hl : l.length ≤ 65536) : ∀ (n x : Nat) (acc : List S64), x + n = l.length → acc.length ≤ x → Ev (fun k => parcloselaw23_Refs.l0 k l acc (x : Int)) (acc ++ (l.drop x).map toR4) := by
 intro n
 induction n with
 | zero =>
  intro x acc hx ha
  refine Ev.step (f := fun _ => some acc) (fun k => by simp only [parcloselaw23_Refs.l0]; rw [if_neg (by omega)]) ?_
  rw [List.drop_of_length_le (by omega)]
  simp only [List.map_nil, List.append_nil]
  exact Ev.now _
 | succ n ih =>
  intro x acc hx ha
  refine Ev.step (f := fun k => parcloselaw23_Refs.l0 k l (acc ++ [toR4 (l.getD x z65)]) ((x + 1 : Nat) : Int)) (fun k => by
   simp only [parcloselaw23_Refs.l0]
   rw [if_pos (by omega), if_pos (by omega), if_pos (by omega), show wrap64 ((x : Int) + 1) = ((x + 1 : Nat) : Int) by unfold wrap64; omega]
   rfl) ?_
  have h := ih (x + 1) (acc ++ [toR4 (l.getD x z65)]) (by omega) (by simp; omega)
  rw [List.append_assoc] at h
  have e : l.drop x = l.getD x z65 :: l.drop (x + 1) := by rw [getD_lt l z65 (by omega)]; exact List.drop_eq_getElem_cons (by omega)
  rw [e, List.map_cons]
  exact h
theorem refs23_f (l : List S65) (hl : l.length ≤ 65536) : ∃ k, parcloselaw23_Refs.f k l = some (l.map toR4) := by
 have h := refs23_ev l hl l.length 0 [] (by omega) (by simp)
 simp only [List.nil_append, List.drop_zero] at h
 exact h.rounds
theorem same23_ev (a b : List S64) (hl : a.length = b.length) (ha : a.length ≤ 100000) : ∀ (n x : Nat), x + n = a.length → Ev (fun k => parcloseref23_Same.l0 k a b (x : Int)) (decide (a.drop x = b.drop x)) := by
 intro n
 induction n with
 | zero =>
  intro x hx
  rw [List.drop_of_length_le (by omega), List.drop_of_length_le (by omega)]
  refine Ev.step (f := fun _ => some true) (fun k => by simp only [parcloseref23_Same.l0]; rw [if_neg (by omega)]) ?_
  exact Ev.now _
 | succ n ih =>
  intro x hx
  have ea : a.drop x = a.getD x z64 :: a.drop (x + 1) := by rw [getD_lt a z64 (by omega)]; exact List.drop_eq_getElem_cons (by omega)
  have eb : b.drop x = b.getD x z64 :: b.drop (x + 1) := by rw [getD_lt b z64 (by omega)]; exact List.drop_eq_getElem_cons (by omega)
  have ra : rd_T64 a (x : Int) = a.getD x z64 := by unfold rd_T64; rw [Int.toNat_natCast]
  have rb : rd_T64 b (x : Int) = b.getD x z64 := by unfold rd_T64; rw [Int.toNat_natCast]
  by_cases he : a.getD x z64 = b.getD x z64
  ·have hd : decide (a.drop x = b.drop x) = decide (a.drop (x + 1) = b.drop (x + 1)) := by rw [ea, eb, he]; simp
   rw [hd]
   refine Ev.step (f := fun k => parcloseref23_Same.l0 k a b ((x + 1 : Nat) : Int)) (fun k => by
    simp only [parcloseref23_Same.l0]
    rw [if_pos (by omega), if_pos (by omega), if_pos (by omega), ra, rb, he, if_neg (by simp), show wrap64 ((x : Int) + 1) = ((x + 1 : Nat) : Int) by unfold wrap64; omega]) (ih (x + 1) (by omega))
  ·have hd : decide (a.drop x = b.drop x) = false := decide_eq_false (by rw [ea, eb]; intro h; exact he (List.cons.inj h).1)
   rw [hd]
   refine Ev.step (f := fun _ => some false) (fun k => by
    simp only [parcloseref23_Same.l0]
    rw [if_pos (by omega), if_pos (by omega), if_pos (by omega), ra, rb, if_pos]
    have h4 : ¬ ((a.getD x z64).f0 = (b.getD x z64).f0 ∧ (a.getD x z64).f1 = (b.getD x z64).f1 ∧ (a.getD x z64).f2 = (b.getD x z64).f2 ∧ (a.getD x z64).f3 = (b.getD x z64).f3) := by
     rintro ⟨h0, h1, h2, h3⟩
     apply he
     cases h5 : a.getD x z64
     cases h6 : b.getD x z64
     simp_all
    simp only [Bool.or_eq_true, Bool.not_eq_true', beq_eq_false_iff_ne, ne_eq]
    omega) (Ev.now _)
theorem same23_f (a b : List S64) (ha : a.length ≤ 100000) : ∃ k, parcloseref23_Same.f k a b = some (decide (a = b)) := by
 unfold parcloseref23_Same.f
 by_cases h : a.length = b.length
 ·have h2 := same23_ev a b h ha a.length 0 (by omega)
  simp only [List.drop_zero] at h2
  obtain ⟨k, hk⟩ := h2.rounds
  exact ⟨k, by rw [if_pos (by omega)]; exact hk⟩
 ·exact ⟨0, by rw [if_neg (by omega), decide_eq_false (fun e => h (by rw [e]))]⟩
def o67 (x : S117) : S67 := ⟨x.f0, e65 x.f1⟩
theorem rd67 (xs : List S67) (i : Nat) : rd_T67 xs (i : Int) = xs.getD i z67 := by unfold rd_T67; rw [Int.toNat_natCast]
def ofP {α : Type} (f : α → Int) (p : Nat) (xs : List α) : List α := xs.filter (fun x => decide (f x = (p : Int)))
def splitP {α β : Type} (f : α → Int) (g : α → β) (xs : List α) (n : Nat) : List (List β) := (List.range n).map (fun p => (ofP f p xs).map g)
theorem splitP_len {α β : Type} (f : α → Int) (g : α → β) (xs : List α) (n : Nat) : (splitP f g xs n).length = n := by simp [splitP]
theorem splitP_get {α β : Type} (f : α → Int) (g : α → β) (xs : List α) (n p : Nat) (h : p < n) : (splitP f g xs n).getD p [] = (ofP f p xs).map g := by
 simp [splitP, List.getD_eq_getElem?_getD, List.getElem?_map, List.getElem?_range h]
theorem ofP_snoc {α : Type} (f : α → Int) (p : Nat) (xs : List α) (x : α) : ofP f p (xs ++ [x]) = if f x = (p : Int) then ofP f p xs ++ [x] else ofP f p xs := by
 unfold ofP
 rw [List.filter_append]
 by_cases h : f x = (p : Int)
 ·rw [if_pos h]; simp [h]
 ·rw [if_neg h]; simp [h]
theorem getD_ext {α : Type} (d : α) {a b : List α} (hl : a.length = b.length) (h : ∀ i, i < a.length → a.getD i d = b.getD i d) : a = b := by
 refine List.ext_getElem hl (fun i h1 h2 => ?_)
 have := h i h1
 rwa [List.getD_eq_getElem?_getD, List.getD_eq_getElem?_getD, List.getElem?_eq_getElem h1, List.getElem?_eq_getElem h2] at this
theorem splitP_in {α β : Type} (f : α → Int) (g : α → β) (xs : List α) (n : Nat) (x : α) (p : Nat) (hp : f x = (p : Int)) (hn : p < n) : (splitP f g xs n).set p ((splitP f g xs n).getD p [] ++ [g x]) = splitP f g (xs ++ [x]) n := by
 refine getD_ext [] (by rw [List.length_set, splitP_len, splitP_len]) (fun i hi => ?_)
 rw [List.length_set, splitP_len] at hi
 rw [getD_set, splitP_get _ _ _ _ _ hi, splitP_get _ _ _ _ _ hn, splitP_get _ _ _ _ _ hi, ofP_snoc, splitP_len]
 by_cases e : p = i
 ·subst e
  rw [if_pos ⟨rfl, hn⟩, if_pos hp, List.map_append]; rfl
 ·rw [if_neg (fun q => e q.1), if_neg (fun q => e (by omega))]
theorem splitP_out {α β : Type} (f : α → Int) (g : α → β) (xs : List α) (n : Nat) (x : α) (hp : ¬ (0 ≤ f x ∧ f x < (n : Int))) : splitP f g (xs ++ [x]) n = splitP f g xs n := by
 refine getD_ext [] (by rw [splitP_len, splitP_len]) (fun i hi => ?_)
 rw [splitP_len] at hi
 rw [splitP_get _ _ _ _ _ hi, splitP_get _ _ _ _ _ hi, ofP_snoc, if_neg (fun q => hp (by omega))]
theorem splitP_nil {α β : Type} (f : α → Int) (g : α → β) (n : Nat) : splitP f g [] n = List.replicate n [] := by
 refine getD_ext [] (by rw [splitP_len, List.length_replicate]) (fun i hi => ?_)
 rw [splitP_len] at hi
 rw [splitP_get _ _ _ _ _ hi]
 simp [ofP, List.getD_eq_getElem?_getD, List.getElem?_replicate, hi]
theorem take_snoc {α : Type} (l : List α) (d : α) (i : Nat) (h : i < l.length) : l.take (i + 1) = l.take i ++ [l.getD i d] := by
 rw [List.take_succ_eq_append_getElem h]; simp [List.getD, h]
def ns (parts : Int) : Nat := (mn (mx parts 0) 64).toNat
theorem ns_eq (parts : Int) : mn (mx parts 0) 64 = (ns parts : Int) := by unfold ns mn mx; (repeat' split) <;> omega
theorem ns_le (parts : Int) : ns parts ≤ 64 := by unfold ns mn mx; (repeat' split) <;> omega
def f67 (x : S67) : Int := x.f0
def g67 (x : S67) : S65 := x.f1
def f117 (x : S117) : Int := x.f0
def g117 (x : S117) : S64 := x.f1
theorem msplit_go (ys : List S67) (n : Nat) (hn : n ≤ 64) (hl : ys.length ≤ 100000) : ∀ m (i : Nat), ys.length - i = m → i ≤ ys.length → ∃ k, merge_Split.l0 k (n : Int) (splitP f67 g67 (ys.take i) n) ys (ys.length : Int) (i : Int) = some (splitP f67 g67 ys n) := by
 intro m
 induction m with
 | zero =>
  intro i hm hi
  refine ⟨1, ?_⟩
  unfold merge_Split.l0
  rw [if_neg (by omega), List.take_of_length_le (by omega)]
 | succ m ih =>
  intro i hm hi
  obtain ⟨k, hk⟩ := ih (i + 1) (by omega) (by omega)
  refine ⟨k + 1, ?_⟩
  unfold merge_Split.l0
  rw [if_pos (by omega), if_pos (by omega), if_pos (by omega), rd67, w64n i (by omega)]
  rw [take_snoc ys z67 i (by omega)] at hk
  by_cases h0 : (ys.getD i z67).f0 ≥ 0
  ·rw [if_pos h0]
   by_cases h1 : (ys.getD i z67).f0 < (n : Int)
   ·have hp : f67 (ys.getD i z67) = (((ys.getD i z67).f0.toNat : Nat) : Int) := by unfold f67; omega
    have hpn : (ys.getD i z67).f0.toNat < n := by omega
    rw [← splitP_in f67 g67 (ys.take i) n (ys.getD i z67) _ hp hpn] at hk
    have hlen : ((splitP f67 g67 (ys.take i) n).getD (ys.getD i z67).f0.toNat []).length ≤ 100000 := by
     rw [splitP_get _ _ _ _ _ hpn, List.length_map]
     unfold ofP
     have := List.length_filter_le (fun x => decide (f67 x = (((ys.getD i z67).f0.toNat : Nat) : Int))) (ys.take i)
     rw [List.length_take] at this; omega
    rw [if_pos h1, if_pos (by omega), if_pos (by rw [splitP_len]; exact h1), if_pos (by unfold rd_L10; omega)]
    exact hk
   ·rw [if_neg h1]
    rw [splitP_out f67 g67 _ n _ (fun q => h1 q.2)] at hk
    exact hk
  ·rw [if_neg h0]
   rw [splitP_out f67 g67 _ n _ (fun q => h0 q.1)] at hk
   exact hk
theorem msplit_ev (ys : List S67) (parts : Int) (hl : ys.length ≤ 100000) : ∃ k, merge_Split.f k ys parts = some (splitP f67 g67 ys (ns parts)) := by
 unfold merge_Split.f
 rw [ns_eq]
 have h64 := ns_le parts
 by_cases h : (ns parts : Int) = 0
 ·have e : ns parts = 0 := by omega
  exact ⟨0, by rw [if_pos h, e]; rfl⟩
 ·obtain ⟨k, hk⟩ := msplit_go ys (ns parts) h64 hl _ 0 rfl (Nat.zero_le _)
  rw [List.take_zero, splitP_nil] at hk
  exact ⟨k, by rw [if_neg h, if_pos (by omega), if_pos (by omega), Int.toNat_natCast]; exact hk⟩
def knB (n : Int) : Bool := decide (0 ≤ n) && decide (n < 64)
def mostP (qs : List (Int × Int)) : Int := qs.foldl (fun m q => if knB q.1 = true then mx m q.1 else m) (-1)
def cntP (kind : Int) (qs : List (Int × Int)) (p : Nat) : Nat := qs.countP (fun q => decide (q.1 = (p : Int)) && decide (q.2 = kind))
structure IsCnt (kind : Int) (qs : List (Int × Int)) (cs : List Int) : Prop where
 len : cs.length = (mostP qs + 1).toNat
 at_ : ∀ p, p < cs.length → cs.getD p 0 = (cntP kind qs p : Int)
def q117 (x : S117) : Int × Int := (x.f0, x.f1.f1)
def q67 (x : S67) : Int × Int := (x.f0, x.f1.f1)
end Go.Proofs.Ytalimpniimgheaa.Fn
namespace Go.Proofs.Ytalimpniimgheaa.Fn
open Go.RowKit Go.Proofs.YtalimpniimgheaaW.PrintWords Go.Proofs.YtalimpniimgheaaW.PrintLast Go.Proofs.YtalimpniimgheaaW.PrintMore
set_option linter.unusedVariables false
set_option linter.unusedSimpArgs false
end Go.Proofs.Ytalimpniimgheaa.Fn
namespace Go.Proofs.Ytalimpniimgheaa.Fn
open Go.RowKit Go.Proofs.YtalimpniimgheaaW.PrintWords Go.Proofs.YtalimpniimgheaaW.PrintLast Go.Proofs.YtalimpniimgheaaW.PrintMore
set_option linter.unusedVariables false
set_option linter.unusedSimpArgs false
attribute [local go_sem] max2_mx min2_mn max_two min_two
theorem run_equalIn_funcnil {P : Program} (w : World) (d : Nat) (t : TypeId) (f : Fn) (a b : Array Value) {ps rs : Array TypeId} {vd : Bool} (h : P.underlying t = some (.func ps rs vd)) : (Op.equalIn (d + 1) t (.func f a b) .nilFunc).run P w = .ok false w := by
 simp [Op.equalIn, run_underlying h]
theorem run_eql_funcnil {P : Program} (w : World) (t : TypeId) (f : Fn) (a b : Array Value) {ps rs : Array TypeId} {vd : Bool} (h : P.underlying t = some (.func ps rs vd)) : (Go.binOp .eql t (.func f a b) .nilFunc).run P w = .ok (.bool false) w := by
 simp only [Go.binOp]
 simp [Op.equal, Op.maxDepth, run_equalIn_funcnil w 9999 t f a b h]
theorem und70 : Try.prog.underlying 70 = some (.func #[67] #[4] false) := by kernel_rfl
def firstI (r : Int) : Int := mx r 0
set_option maxHeartbeats 4000000 in
set_option maxRecDepth 100000 in
theorem firstlate_calls (A : Option Addr) (c : Nat) (xs : List S67) (w : World) (hr : k67.C w A xs.length xs) (hl : xs.length ≤ 100000) : Calls Try.prog 44 #[.slice A xs.length c, .func (.func 45) #[] #[]] w fun e w' => ∃ r, e = .returned (.tuple #[.int .i64 (mx r 0), .bool (decide (0 ≤ r))]) ∧ IdxOf (fun x : S67 => decide (5 ≤ x.f1.f0)) xs z67 r ∧ Below w.heap.size w w' := by
 have IX := asd (idx45_calls A c xs (fun x : S67 => decide (5 ≤ x.f1.f0)) w hr hl (fun wr x _ => late45_calls x wr))
 clear hr hl
 have hq := fun w f a b => run_eql_funcnil (P := Try.prog) w 70 f a b und70
 go_enter Try.func44, Try.ntmps44
 go_wp2_with (first | (go_at_call 83; refine IX.out.mono ?_; rintro e w1 ⟨r, rfl, hr, hb⟩; have HR := asd hr; have HB := asd hb; clear hr hb))
 go_ret2
 exact ⟨r, rfl, HR.out, HB.out⟩
end Go.Proofs.Ytalimpniimgheaa.Fn
namespace Go.Proofs.Ytalimpniimgheaa.Fn
open Go.RowKit Go.Proofs.YtalimpniimgheaaW.PrintWords Go.Proofs.YtalimpniimgheaaW.PrintLast Go.Proofs.YtalimpniimgheaaW.PrintMore
set_option linter.unusedVariables false
set_option linter.unusedSimpArgs false
def mlk13T : Bool × List (List Nat × List Nat) := (true, [([], []), ([], []), ([0, 1], [0, 1]), ([2], [2]), ([3], [3]), ([], []), ([], []), ([5, 6], [5, 6]), ([7], [7]), ([4, 8, 4], [4, 8]), ([9], [9])])
def mlk13B : List Nat := [0, 0, 3, 7, 15, 0, 0, 96, 224, 511, 1023]
theorem refsb_calls (A : Option Addr) (c : Nat) (b : List S64) (w : World) (hr : Kd.C k65 w A b.length (b.map e65)) (hc : b.length ≤ c) (hl : b.length ≤ 65536) :
  Calls Try.prog 23 #[.slice A b.length c] w fun e w' => ∃ A' c', e = .returned (.slice A' b.length c') ∧ b.length ≤ c' ∧ Kd.C k64 w' A' b.length b ∧ Below w.heap.size w w' := by
 obtain ⟨k, hk⟩ := refs23_f (b.map e65) (by rw [List.length_map]; exact hl)
 have e2 : (b.map e65).map toR4 = b := by rw [List.map_map]; exact List.map_id'' (fun x => rfl) b
 rw [e2] at hk
 have hL : (b.map e65).length = b.length := List.length_map _
 have h := parcloselaw23_Refs.calls k A c (b.map e65) b w (by rw [hL]; exact hr) (by rw [hL]; exact hc) hk
 rw [hL] at h
 refine h.mono ?_
 rintro e w1 ⟨v, rfl, hv, hb⟩
 obtain ⟨A', c', rfl, hc', hC'⟩ := Kd.R_reads hv
 exact ⟨A', c', rfl, hc', hC', hb⟩
theorem sameb_calls (A0 : Option Addr) (c0 : Nat) (A1 : Option Addr) (c1 : Nat) (b : List S64) (w : World) (hr0 : Kd.C k64 w A0 b.length b) (hc0 : b.length ≤ c0) (hr1 : Kd.C k64 w A1 b.length b) (hc1 : b.length ≤ c1) (hl : b.length ≤ 65536) :
  Calls Try.prog 22 #[.slice A0 b.length c0, .slice A1 b.length c1] w fun e w' => e = .returned (.bool true) ∧ Below w.heap.size w w' := by
 obtain ⟨k, hk⟩ := same23_f b b (by omega)
 rw [decide_eq_true rfl] at hk
 refine (parcloseref23_Same.calls k A0 c0 b A1 c1 b true w hr0 hc0 hr1 hc1 hk).mono ?_
 rintro e w1 ⟨rfl, hd⟩
 exact ⟨rfl, hd.below⟩
end Go.Proofs.Ytalimpniimgheaa.Fn
namespace Go.Proofs.Ytalimpniimgheaa.Fn
open Go.RowKit Go.Proofs.YtalimpniimgheaaW.PrintWords Go.Proofs.YtalimpniimgheaaW.PrintLast Go.Proofs.YtalimpniimgheaaW.PrintMore
set_option linter.unusedVariables false
set_option linter.unusedSimpArgs false
theorem mg_part {yss : List (List S64)} {pos : List Nat} {rs : List (Nat × S64)} (h : Mg yss pos rs) (hp : pos.length = yss.length) (p : Nat) (hlt : p < yss.length) : (rs.filter (fun r => decide (r.1 = p))).map (·.2) = (yss.getD p []).drop (pos.getD p 0) := by
 induction h with
 | done hd =>
  have h1 := hd p
  have h2 : ¬ _ := fun q => h1 ⟨hlt, q⟩
  rw [List.drop_of_length_le (by omega)]; rfl
 | @step pos i rs hl hm ih =>
  have ih2 := ih (by rw [stepP_length]; exact hp)
  by_cases e : i = p
  ·subst e
   rw [List.filter_cons, if_pos (by simp), List.map_cons, ih2]
   rw [drop_cons _ _ zz64 hl.1.2]
   unfold stepP entO
   rw [getD_set, if_pos ⟨rfl, by omega⟩]
  ·rw [List.filter_cons, if_neg (by simpa using e), ih2]
   unfold stepP
   rw [getD_set, if_neg (fun q => e q.1)]
def RisN (l : List S64) : Prop := ∀ i, i + 1 < l.length → (l.getD i z64).f0 ≤ (l.getD (i + 1) z64).f0
def AdjR (a b : Nat × S64) : Prop := a.2.f0 < b.2.f0 ∨ (a.2.f0 = b.2.f0 ∧ a.1 ≤ b.1)
def rz : Nat × S64 := (0, zz64)
theorem mg_rises {yss : List (List S64)} {pos : List Nat} {rs : List (Nat × S64)} (h : Mg yss pos rs) (hp : pos.length = yss.length) (hr : ∀ p, p < yss.length → RisN (yss.getD p [])) : ∀ k, k + 1 < rs.length → AdjR (rs.getD k rz) (rs.getD (k + 1) rz) := by
 induction h with
 | done hd => intro k hk; simp at hk
 | @step pos i rs hl hm ih =>
  have ih2 := ih (by rw [stepP_length]; exact hp)
  intro k hk
  match k with
  | k + 1 =>
   have := ih2 k (by simpa using hk)
   simpa using this
  | 0 =>
   cases hm with
   | done hd => simp at hk
   | @step _ j rs2 hl2 hm2 =>
    show AdjR (i, entO yss pos i) (j, entO yss (stepP pos i) j)
    by_cases e : j = i
    ·subst e
     have h1 := hr j hl.1.1 (pos.getD j 0) (by
      have h2 := hl2.1.2
      unfold stepP at h2
      rw [getD_set, if_pos ⟨rfl, by have := hl.1.1; omega⟩] at h2
      exact h2)
     have e2 : entO yss (stepP pos j) j = (yss.getD j []).getD (pos.getD j 0 + 1) z64 := by
      unfold entO stepP
      rw [getD_set, if_pos ⟨rfl, by have := hl.1.1; omega⟩]; rfl
     have e3 : entO yss pos j = (yss.getD j []).getD (pos.getD j 0) z64 := rfl
     unfold AdjR
     simp only
     rw [e2, e3]
     omega
    ·have hav : Av yss pos j := by
      have h2 := hl2.1
      refine ⟨h2.1, ?_⟩
      have h3 := h2.2
      unfold stepP at h3
      rw [getD_set, if_neg (fun q => e q.1.symm)] at h3
      exact h3
     have e2 : entO yss (stepP pos i) j = entO yss pos j := by
      unfold entO stepP
      rw [getD_set, if_neg (fun q => e q.1.symm)]
     rw [e2]
     exact hl.2 j hav
theorem part_own {yss : List (List S64)} {rs : List (Nat × S64)} (h : Mg yss (List.replicate yss.length 0) rs) (p : Nat) (hlt : p < yss.length) : (ofP f67 p (rs.map row67)).map g67 = (yss.getD p []).map e65 := by
 have h1 := mg_part h (by simp) p hlt
 have e0 : (List.replicate yss.length 0).getD p 0 = 0 := by simp [List.getD_eq_getElem?_getD, List.getElem?_replicate]; split <;> rfl
 rw [e0, List.drop_zero] at h1
 rw [← h1]
 unfold ofP
 rw [List.filter_map, List.map_map, List.map_map]
 have e1 : (fun x => decide (f67 x = (p : Int))) ∘ row67 = fun r : Nat × S64 => decide (r.1 = p) := by
  funext r
  show decide (((r.1 : Nat) : Int) = (p : Int)) = decide (r.1 = p)
  by_cases q : r.1 = p
  ·rw [decide_eq_true q, decide_eq_true (by omega)]
  ·rw [decide_eq_false q, decide_eq_false (by omega)]
 rw [e1]
 rfl
end Go.Proofs.Ytalimpniimgheaa.Fn
namespace Go.Proofs.Ytalimpniimgheaa.Fn
open Go.RowKit Go.Proofs.YtalimpniimgheaaW.PrintWords Go.Proofs.YtalimpniimgheaaW.PrintLast Go.Proofs.YtalimpniimgheaaW.PrintMore
set_option linter.unusedVariables false
set_option linter.unusedSimpArgs false
def msp11T : Bool × List (List Nat × List Nat) := (true, [([], []), ([], []), ([0, 1], [0, 1]), ([2], [2]), ([3], [3]), ([], []), ([], []), ([5, 6], [5, 6]), ([7], [7]), ([4, 8, 4], [4, 8]), ([9], [9])])
def msp11B : List Nat := [0, 0, 3, 7, 15, 0, 0, 96, 224, 511, 1023]
theorem msp11_tab : rtab .any (opsOf Try.f7 11) = msp11T := by kernel_rfl
theorem msp11_bits : waitsOk msp11T.2 msp11B = true := by kernel_rfl
set_option maxHeartbeats 4000000 in
set_option maxRecDepth 100000 in
theorem msplits_dark (a0 : Option Addr) (c0 : Nat) (x0 : List (List S64)) (w : World) (b : Bool) (FW : Calls Try.prog 37 #[.slice a0 x0.length c0] w fun e w' => e = .returned (.bool b) ∧ Drawn0 w w') (hn : ¬ (b = true ∧ x0.length ≤ 64)) : Calls Try.prog 7 #[.slice a0 x0.length c0] w fun e w' => e = .returned (.bool true) ∧ Below w.heap.size w w' := by
 have F := asd FW
 clear FW
 cases b with
 | false =>
  clear hn
  go_enter Try.func7, Try.ntmps7
  go_wp2_with (first | (go_at_call 37; refine F.out.mono ?_; rintro e w1 ⟨rfl, hd⟩; have HB1 := asd hd.below; clear hd) | (go_at_call 38; refine (mknows_calls _).mono ?_; rintro e w2 ⟨rfl, hb⟩; have HB2 := asd (below_step HB1.out hb); clear hb))
  go_ret
  exact ⟨rfl, HB2.out⟩
 | true =>
  have d : decide (64 < (x0.length : Int)) = true := decide_eq_true (by have : ¬ x0.length ≤ 64 := fun h => hn ⟨rfl, h⟩; omega)
  have d2 : decide ((x0.length : Int) > 64) = true := d
  clear hn
  go_enter Try.func7, Try.ntmps7
  go_wp2_with (first | (go_at_call 37; refine F.out.mono ?_; rintro e w1 ⟨rfl, hd⟩; have HB1 := asd hd.below; clear hd) | (go_at_call 38; refine (mknows_calls _).mono ?_; rintro e w2 ⟨rfl, hb⟩; have HB2 := asd (below_step HB1.out hb); clear hb))
  go_ret
  exact ⟨rfl, HB2.out⟩
def RisUpto (l : List S64) (j : Nat) : Prop := ∀ i, i < j → i + 1 < l.length → (l.getD i z64).f0 ≤ (l.getD (i + 1) z64).f0
theorem rd64 (xs : List S64) (i : Nat) : rd_T64 xs (i : Int) = xs.getD i z64 := by unfold rd_T64; rw [Int.toNat_natCast]
set_option maxHeartbeats 16000000 in
set_option maxRecDepth 100000 in
theorem msplits_light (a0 : Option Addr) (c0 : Nat) (x0 : List (List S64)) (w : World) (hr : Kd.C (Kd.slice 64 k64) w a0 x0.length x0) (hc : x0.length ≤ c0) (FW0 : Calls Try.prog 37 #[.slice a0 x0.length c0] w fun e w' => e = .returned (.bool true) ∧ Drawn0 w w') (h64 : x0.length ≤ 64) (h40 : ∀ j, j < x0.length → (x0.getD j []).length ≤ 40) : Calls Try.prog 7 #[.slice a0 x0.length c0] w fun e w' => e = .returned (.bool true) ∧ Below w.heap.size w w' := by
 have d : decide (64 < (x0.length : Int)) = false := decide_eq_false (by omega)
 have d2 : decide ((x0.length : Int) > 64) = false := d
 have hall : ∀ i, (x0.getD i []).length ≤ 40 := fun i => by
  by_cases q : i < x0.length
  ·exact h40 i q
  ·have : x0.getD i [] = [] := by simp [List.getD_eq_getElem?_getD, List.getElem?_eq_none (by omega : x0.length ≤ i)]
   rw [this]; simp
 have FW := asd FW0
 have HR := asd hr
 obtain ⟨kl, hl⟩ := logs_ev x0 (by omega) (fun i => by have := hall i; omega)
 have LC := asd (fun w1 (h : Kd.C (Kd.slice 64 k64) w1 a0 x0.length x0) => parcloselaw40_logs.calls kl a0 c0 x0 _ w1 h hc hl)
 have HA := asd hall
 have H64 := asd h64
 have tk : x0.take 64 = x0 := List.take_of_length_le h64
 have nse : ns (x0.length : Int) = x0.length := by unfold ns mn mx; (repeat' split) <;> omega
 have TK := asd (And.intro tk nse)
 clear hr hc FW0 h64 h40 hall hl tk nse
 go_enter Try.func7, Try.ntmps7
 go_wp2_with (first
  | (go_at_call 37; refine FW.out.mono ?_; rintro e w1 ⟨rfl, hd⟩; have HB1 := asd hd.below; clear hd)
  | (go_at_call 38; refine (mknows_calls _).mono ?_; rintro e w2 ⟨rfl, hb⟩; have HB2 := asd (below_step HB1.out hb); clear hb)
  | (go_at_call 41; refine (LC.out _ (Kd.C_below HR.out HB2.out)).mono ?_; rintro e w3 ⟨v, rfl, hs, hb⟩; obtain ⟨A2, c2, rfl, hc2, hC2⟩ := Kd.S_reads hs; have CC := asd (And.intro hc2 hC2); have HB3 := asd (below_step HB2.out hb); clear hs hb hc2 hC2)
  | (go_at_call 40; (try rw [List.length_map] at CC); (try rw [List.length_map]); refine (mlogs_calls A2 c2 x0 _ CC.out.2 CC.out.1 (fun i => by have := HA.out i; omega) (by have := H64.out; omega)).mono ?_; rintro e w4 ⟨v, rs, rfl, hm, hR, hb⟩; rw [TK.out.1] at hm; have MG := asd hm; have HRS := asd hR; have HB4 := asd (below_step HB3.out hb); clear hm hR hb))
 clear LC CC FW
 have RL : Aside0 (rs.length ≤ 100000) := ⟨by
  have h1 := left_le x0 (List.replicate x0.length 0) 1000 (fun i => by have := HA.out i; omega)
  have h2 : x0.length * 1000 ≤ 64 * 1000 := Nat.mul_le_mul_right _ H64.out
  obtain ⟨r2, hm2, hl2⟩ := mg_exists x0 64000 (List.replicate x0.length 0) (by simp) (by omega)
  rw [mg_fun MG.out hm2]; omega⟩
 have PO := asd (fun p h => part_own MG.out p h)
 have RI := asd (fun h => mg_rises MG.out (by simp) h)
 obtain ⟨k2, hk2⟩ := msplit_ev (rs.map row67) (x0.length : Int) (by rw [List.length_map]; exact RL.out)
 rw [TK.out.2] at hk2
 obtain ⟨A3, c3, rfl, hc3, hC3⟩ := Kd.R_reads HRS.out
 rw [List.length_map] at hc3 hC3
 have hml : (rs.map row67).length = rs.length := List.length_map _
 have SP := asd (fun w1 (h : Kd.C k67 w1 A3 rs.length (rs.map row67)) => merge_Split.calls k2 A3 c3 (rs.map row67) (x0.length : Int) _ w1 (by rw [hml]; exact h) (by rw [hml]; exact hc3) hk2)
 have FL := asd (fun w1 (h : Kd.C k67 w1 A3 rs.length (rs.map row67)) => firstlate_calls A3 c3 (rs.map row67) w1 (by rw [hml]; exact h) (by rw [hml]; exact RL.out))
 simp only [List.length_map] at SP FL ⊢
 have L1 := splitP_len f67 g67 (rs.map row67) x0.length
 have SG := asd (fun p (h : p < x0.length) => (splitP_get f67 g67 (rs.map row67) x0.length p h).trans (PO.out p h))
 generalize splitP f67 g67 (rs.map row67) x0.length = sa at SP SG L1
 have C3 := asd hC3
 have LS := asd L1
 clear hk2 hc3 hC3 hml HRS L1 PO
 go_wp2_with (first
  | (go_at_call 43; refine (SP.out _ C3.out).mono ?_; rintro e w5 ⟨v, rfl, hs, hb⟩; obtain ⟨A4, c4, rfl, hc4, hC4⟩ := Kd.S_reads hs; rw [LS.out] at hC4 hc4; rw [LS.out]; have C4 := asd hC4; have HB5 := asd (below_step HB4.out hb); have C3b := asd (Kd.C_below C3.out hb); clear hs hb hc4 hC4))
 clear SP C3
 have H0 := asd (Kd.C_below HR.out HB5.out)
 go_loopw [5, 6] (fun v5 v6 wr => ∃ (p : Nat) (b : Bool), v5 = .bool b ∧ v6 = .int .i64 p ∧ Aside0 (p ≤ x0.length) ∧ Aside0 (b = true → ∀ q, q < p → RisN (x0.getD q [])) ∧ Aside0 (Below w5.heap.size w5 wr)) (fun _ v => fun _ => 100 - (intOf v).toNat)
 case atStart => exact ⟨0, true, rfl, rfl, ⟨Nat.zero_le _⟩, ⟨fun _ q hq => absurd hq (by omega)⟩, ⟨Below.refl _ _⟩⟩
 case round =>
  obtain ⟨p, ris, rfl, rfl, HX, HQ, HB⟩ := hrel
  have h99 : (x0.length : Int) ≤ 64 := by have := H64.out; omega
  by_cases hlt : p < x0.length
  ·have q1 : decide ((p : Int) < (x0.length : Int)) = true := decide_eq_true (by omega)
   have q0 : ((p : Int) < (x0.length : Int)) = True := eq_true (by omega)
   have q2 : decide (p < x0.length) = true := decide_eq_true hlt
   obtain ⟨ad2, B10, d10, rfl, y1, hd10, hC10⟩ := at_L10 (Kd.C_below C4.out HB.out) (p : Int) (by omega) (by omega)
   obtain ⟨ad3, B7, d7, rfl, y2, hd7, hC7⟩ := at_L7 (Kd.C_below H0.out HB.out) (p : Int) (by omega) (by omega)
   have e1 : rd_L10 sa (p : Int) = (rd_L7 x0 (p : Int)).map e65 := by
    unfold rd_L10 rd_L7
    rw [Int.toNat_natCast]
    exact SG.out p hlt
   have hbl : (rd_L7 x0 (p : Int)).length ≤ 40 := by unfold rd_L7; rw [Int.toNat_natCast]; exact HA.out p
   have BE : Aside0 (rd_L7 x0 (p : Int) = x0.getD p []) := ⟨by unfold rd_L7; rw [Int.toNat_natCast]⟩
   rw [e1] at y1 hd10 hC10
   rw [List.length_map] at y1 hd10 hC10
   generalize rd_L7 x0 (p : Int) = b at y1 y2 hd10 hC10 hd7 hC7 hbl BE
   clear e1
   have BL : Aside0 (b.length ≤ 65536) := ⟨by omega⟩
   have B40 := asd hbl
   have C10 := asd (And.intro hd10 hC10)
   have C7 := asd (And.intro hd7 hC7)
   have HLT := asd hlt
   clear hbl hd10 hC10 hd7 hC7 hlt
   simp only [Int.toNat_natCast] at y1 y2
   go_wp2
   refine start_ (n := 11) (S := fun w' => w'.cell? (ad2.add p) = some (.slice B10 b.length d10) ∧ w'.cell? (ad3.add p) = some (.slice B7 b.length d7)) (ds := []) #[false, false, false, false, false, false, false, false, false, false, false] (by kernel_rfl) rfl rfl ⟨y1, y2⟩ (fun hHeld => ?_); refine with_tabW msp11_tab msp11_bits (fun HT_ HW_ => ?_)
   have HB2 := asd (below_drew1 HB.out)
   have C10b := asd (Kd.C_drew C10.out.2)
   have C7b := asd (Kd.C_drew C7.out.2)
   clear y1 y2 HB
   generalize wr.drew = wd at HB2 C10b C7b hHeld ⊢
   refine pure_ (i := 0) (N := (some 43)) (v := ?_) (a' := ?_) #[true, false, false, false, false, false, false, false, false, false, false] rfl rfl (any_of HT_.out (by kernel_rfl)) (fun _ _ _ h => h) (Or.inl ⟨by rfl, ?_⟩) ?_ ?_
   rotate_left
   ·intro w'
    go_simp
    with_reducible rfl
   rotate_left
   ·simp only [Act.put, sB, i64_w, i32_w]
    rfl
   refine pure_ (i := 1) (N := (some 44)) (v := ?_) (a' := ?_) #[true, true, false, false, false, false, false, false, false, false, false] rfl rfl (any_of HT_.out (by kernel_rfl)) (fun _ _ _ h => h) (Or.inl ⟨by rfl, ?_⟩) ?_ ?_
   rotate_left
   ·intro w'
    go_simp
    with_reducible rfl
   rotate_left
   ·simp only [Act.put, sB, i64_w, i32_w]
    rfl
   refine pure_ (i := 2) (N := (some 45)) (v := ?_) (a' := ?_) #[true, true, true, false, false, false, false, false, false, false, false] rfl rfl (any_of HT_.out (by kernel_rfl)) (fun _ _ _ h => h) (Or.inl ⟨by rfl, ?_⟩) ?_ ?_
   rotate_left
   ·intro w'
    go_simp
    with_reducible rfl
   rotate_left
   ·simp only [Act.put, sB, i64_w, i32_w]
    rfl
   refine take_ (i := 3) (N := (some 46)) (v := ?_) (a' := ?_) #[true, true, true, true, false, false, false, false, false, false, false] rfl rfl (take_ofW HT_.out HW_.out (by kernel_rfl)) (fun _ _ _ h => h) (Or.inl ⟨by rfl, ?_⟩) hHeld ?_ ?_
   rotate_left
   ·rintro w' ⟨s0, s1⟩
    go_simp
    with_reducible rfl
   rotate_left
   ·simp only [Act.put, sB, i64_w, i32_w]
    rfl
   refine pure_ (i := 5) (N := (some 48)) (v := ?_) (a' := ?_) #[true, true, true, true, false, true, false, false, false, false, false] rfl rfl (any_of HT_.out (by kernel_rfl)) (fun _ _ _ h => h) (Or.inl ⟨by rfl, ?_⟩) ?_ ?_
   rotate_left
   ·intro w'
    go_simp
    with_reducible rfl
   rotate_left
   ·simp only [Act.put, sB, i64_w, i32_w]
    rfl
   refine pure_ (i := 6) (N := (some 49)) (v := ?_) (a' := ?_) #[true, true, true, true, false, true, true, false, false, false, false] rfl rfl (any_of HT_.out (by kernel_rfl)) (fun _ _ _ h => h) (Or.inl ⟨by rfl, ?_⟩) ?_ ?_
   rotate_left
   ·intro w'
    go_simp
    with_reducible rfl
   rotate_left
   ·simp only [Act.put, sB, i64_w, i32_w]
    rfl
   refine pure_ (i := 7) (N := (some 50)) (v := ?_) (a' := ?_) #[true, true, true, true, false, true, true, true, false, false, false] rfl rfl (any_of HT_.out (by kernel_rfl)) (fun _ _ _ h => h) (Or.inl ⟨by rfl, ?_⟩) ?_ ?_
   rotate_left
   ·intro w'
    go_simp
    with_reducible rfl
   rotate_left
   ·simp only [Act.put, sB, i64_w, i32_w]
    rfl
   refine take_ (i := 8) (N := (some 51)) (v := ?_) (a' := ?_) #[true, true, true, true, false, true, true, true, true, false, false] rfl rfl (take_ofW HT_.out HW_.out (by kernel_rfl)) (fun _ _ _ h => h) (Or.inl ⟨by rfl, ?_⟩) hHeld ?_ ?_
   rotate_left
   ·rintro w' ⟨s0, s1⟩
    go_simp
    with_reducible rfl
   rotate_left
   ·simp only [Act.put, sB, i64_w, i32_w]
    rfl
   refine one_ (i := 4) (N := (some 47)) #[true, true, true, true, true, true, true, true, true, false, false] rfl rfl (one_of HT_.out (by kernel_rfl)) (by decide) (fun K hK => ?_)
   refine goes_ Try.func23 (by kernel_rfl) rfl #[.slice B10 b.length d10] (by rfl) rfl rfl (by simp [Act.eval]) ?_
   refine (refsb_calls B10 d10 b wd C10b.out C10.out.1 BL.out).mono ?_
   rintro e wq ⟨A8, c8, rfl, hc8, hC8, hb⟩
   have C8 := asd (And.intro hc8 hC8)
   have HB3 := asd (below_step HB2.out hb)
   have HBD := asd hb
   have C7c := asd (Kd.C_below C7b.out hb)
   clear hc8 hC8 hb
   refine ⟨_, rfl, ?_⟩
   refine hK.out _ _ ⟨pw_cell_below HBD.out hHeld.1, pw_cell_below HBD.out hHeld.2⟩ (fun hHeld => ?_)
   clear hK K
   refine norm_ (a' := ?_) ?_ ?_
   rotate_left
   ·show Act.put _ (some 47) _ = _
    simp only [Act.put, sB, i64_w, i32_w]
    rfl
   refine one_ (i := 9) (N := (some 52)) #[true, true, true, true, true, true, true, true, true, true, false] rfl rfl (one_of HT_.out (by kernel_rfl)) (by decide) (fun K hK => ?_)
   refine goes_ Try.func22 (by kernel_rfl) rfl #[.slice A8 b.length c8, .slice B7 b.length d7] (by rfl) rfl rfl (by simp [Act.eval]) ?_
   refine (sameb_calls A8 c8 B7 d7 b wq C8.out.2 C8.out.1 C7c.out C7.out.1 BL.out).mono ?_
   rintro e wz ⟨rfl, hb⟩
   have HB4 := asd (below_step HB3.out hb)
   have HBD2 := asd hb
   have C7d := asd (Kd.C_below C7c.out hb)
   clear hb
   refine ⟨_, rfl, ?_⟩
   refine hK.out _ _ ⟨pw_cell_below HBD2.out hHeld.1, pw_cell_below HBD2.out hHeld.2⟩ (fun hHeld => ?_)
   clear hK K
   refine norm_ (a' := ?_) ?_ ?_
   rotate_left
   ·show Act.put _ (some 52) _ = _
    simp only [Act.put, sB, i64_w, i32_w]
    rfl
   refine pure_ (i := 10) (N := (some 53)) (v := ?_) (a' := ?_) #[true, true, true, true, true, true, true, true, true, true, true] rfl rfl (any_of HT_.out (by kernel_rfl)) (fun _ _ _ h => h) (Or.inl ⟨by rfl, ?_⟩) ?_ ?_
   rotate_left
   ·intro w'
    go_simp
    with_reducible rfl
   rotate_left
   ·simp only [Act.put, sB, i64_w, i32_w]
    rfl
   refine done_ (done_of HT_.out (by kernel_rfl)) ?_
   try go_wp2
   have z2 := hHeld.2
   have ZZ := asd z2
   clear z2 hHeld
   go_loopw [5, 7] (fun v5 v7 wq => ∃ (j : Nat) (bb : Bool), v5 = .bool bb ∧ v7 = .int .i64 ((j : Int) + 1) ∧ Aside0 (j ≤ 40) ∧ Aside0 (bb = true → ris = true ∧ RisUpto b j) ∧ Aside0 (Below wz.heap.size wz wq)) (fun _ v => fun _ => 100 - (intOf v).toNat)
   case atStart => exact ⟨0, ris, rfl, by simp, ⟨by omega⟩, ⟨fun h => ⟨h, fun i hi => absurd hi (by omega)⟩⟩, ⟨Below.refl _ _⟩⟩
   case round =>
    rename World => wq
    obtain ⟨j, bb, rfl, rfl, HY, HZ, HD⟩ := hrel
    have j99 : (j : Int) ≤ 40 := by have := HY.out; omega
    have y2 := pw_cell_below HD.out ZZ.out
    have b99 : (b.length : Int) ≤ 40 := by have := B40.out; omega
    have p99 : (p : Int) < 64 := by have := HLT.out; omega
    have p0 : (0 ≤ (p : Int)) = True := eq_true (by omega)
    by_cases hj : j + 1 < b.length
    ·have r1 : decide ((j : Int) + 1 < (b.length : Int)) = true := decide_eq_true (by omega)
     have r0 : ((j : Int) + 1 < (b.length : Int)) = True := eq_true (by omega)
     have r3 : ((j : Int) < (b.length : Int)) = True := eq_true (by omega)
     have r4 : (0 ≤ (j : Int) + 1) = True := eq_true (by omega)
     have hcb := Kd.C_below C7d.out HD.out
     obtain ⟨adb, rfl, z0, _⟩ := at_T64 hcb (j : Int) (by omega) (by omega)
     obtain ⟨adc, hae, z1, _⟩ := at_T64 hcb ((j + 1 : Nat) : Int) (by omega) (by omega)
     obtain rfl := Option.some.inj hae
     rw [rd64] at z0 z1
     simp only [Int.toNat_natCast] at z0 z1
     have e1 : ((j : Int) + 1).toNat = j + 1 := by omega
     have BS : Aside0 (((b.getD j z64).f0 ≤ (b.getD (j + 1) z64).f0) → RisUpto b j → RisUpto b (j + 1)) := ⟨fun h1 h2 i hi hl => by
      by_cases q : i = j
      ·subst q; exact h1
      ·exact h2 i (by omega) hl⟩
     generalize (b.getD j z64).f0 = u0 at z0 BS
     generalize (b.getD (j + 1) z64).f0 = u1 at z1 BS
     have HJ := asd hj
     clear hj hcb hae
     cases bb with
     | false =>
      clear BS
      go_wp2
      go_region
      all_goals go_wp2
      all_goals go_roundw
      all_goals first
       | exact ⟨j + 1, false, rfl, by go_num, ⟨by have := HJ.out; have := B40.out; omega⟩, ⟨fun h => by cases h⟩, ⟨below_drew1 HD.out⟩⟩
       | (simp [intOf]; omega)
     | true =>
      go_wp2
      go_region
      all_goals go_wp2
      all_goals go_roundw
      case rel => exact ⟨j + 1, decide (u0 ≤ u1), rfl, by go_num, ⟨by have := HJ.out; have := B40.out; omega⟩, ⟨fun h => ⟨(HZ.out (by simp)).1, BS.out (of_decide_eq_true h) (HZ.out (by simp)).2⟩⟩, ⟨below_drew1 HD.out⟩⟩
      case measure => simp [intOf]; omega
    ·have r1 : decide ((j : Int) + 1 < (b.length : Int)) = false := decide_eq_false (by omega)
     have HE : Aside0 (bb = true → ris = true ∧ RisN b) := ⟨fun h => ⟨(HZ.out h).1, fun i hi => (HZ.out h).2 i (by omega) hi⟩⟩
     have HB6 := asd (below_step HB4.out HD.out)
     clear hj
     go_wp2
     go_roundw
     case rel => exact ⟨p + 1, bb, rfl, by go_num, ⟨HLT.out⟩, ⟨fun h q hq => by
      by_cases e : q = p
      ·subst e; rw [← BE.out]; exact (HE.out h).2
      ·exact HQ.out (HE.out h).1 q (by omega)⟩, HB6⟩
     case measure => simp [intOf]; omega
  ·have q1 : decide ((p : Int) < (x0.length : Int)) = false := decide_eq_false (by omega)
   have q2 : decide (p < x0.length) = false := decide_eq_false hlt
   have C3c := asd (Kd.C_below C3b.out HB.out)
   have HB6 := asd (below_step HB5.out HB.out)
   have AJ : Aside0 (ris = true → ∀ k, k + 1 < rs.length → AdjR (rs.getD k rz) (rs.getD (k + 1) rz)) := ⟨fun h => RI.out (fun q hq => HQ.out h q (by omega))⟩
   have h98 : (rs.length : Int) ≤ 100000 := by have := RL.out; omega
   clear hlt H0 C3b C4 HB HQ RI
   go_wp2
   go_loopw [8] (fun v8 wq => ∃ j : Nat, v8 = .int .i64 ((j : Int) + 1) ∧ Aside0 (j ≤ 100000) ∧ Aside0 (Below wr.heap.size wr wq)) (fun v => fun _ => 100010 - (intOf v).toNat)
   case atStart => exact ⟨0, by simp, ⟨by omega⟩, ⟨Below.refl _ _⟩⟩
   case round =>
    rename World => wq
    obtain ⟨j, rfl, HY, HD⟩ := hrel
    have j99 : (j : Int) ≤ 100000 := by have := HY.out; omega
    by_cases hj : j + 1 < rs.length ∧ ris = true
    ·obtain ⟨hj, rfl⟩ := hj
     have r1 : decide ((j : Int) + 1 < (rs.length : Int)) = true := decide_eq_true (by omega)
     have r0 : ((j : Int) + 1 < (rs.length : Int)) = True := eq_true (by omega)
     have r3 : ((j : Int) < (rs.length : Int)) = True := eq_true (by omega)
     have r4 : (0 ≤ (j : Int) + 1) = True := eq_true (by omega)
     have hcb := Kd.C_below C3c.out HD.out
     obtain ⟨adb, rfl, z0, z1, _⟩ := at_T67 hcb (j : Int) (by omega) (by omega)
     obtain ⟨adc, hae, z2, z3, _⟩ := at_T67 hcb ((j + 1 : Nat) : Int) (by omega) (by omega)
     obtain rfl := Option.some.inj hae
     have m0 : (rs.map row67).getD j z67 = row67 (rs.getD j rz) := getD_map row67 rs j rz
     have m1 : (rs.map row67).getD (j + 1) z67 = row67 (rs.getD (j + 1) rz) := getD_map row67 rs (j + 1) rz
     rw [rd67, m0] at z0 z1
     rw [rd67, m1] at z2 z3
     simp only [Int.toNat_natCast] at z0 z1 z2 z3
     have e1 : ((j : Int) + 1).toNat = j + 1 := by omega
     have aj : (row67 (rs.getD j rz)).f1.f0 < (row67 (rs.getD (j + 1) rz)).f1.f0 ∨ ((row67 (rs.getD j rz)).f1.f0 = (row67 (rs.getD (j + 1) rz)).f1.f0 ∧ (row67 (rs.getD j rz)).f0 ≤ (row67 (rs.getD (j + 1) rz)).f0) := by
      rcases AJ.out rfl j hj with h | ⟨h1, h2⟩
      ·exact .inl h
      ·exact .inr ⟨h1, Int.ofNat_le.2 h2⟩
     generalize (row67 (rs.getD j rz)).f0 = a0v at z0 aj
     generalize (row67 (rs.getD j rz)).f1.f0 = a1v at z1 aj
     generalize (row67 (rs.getD (j + 1) rz)).f0 = b0v at z2 aj
     generalize (row67 (rs.getD (j + 1) rz)).f1.f0 = b1v at z3 aj
     have t0 : decide (b1v < a1v) = false := decide_eq_false (by omega)
     have HJ := asd hj
     have AJJ := asd aj
     clear hj hcb hae m0 m1 aj
     by_cases he : b1v = a1v
     ·subst he
      have t2 : decide (b0v < a0v) = false := decide_eq_false (by have := AJJ.out; omega)
      have t1 : (b1v == b1v) = true := by simp
      go_wp2
      go_region
      all_goals go_wp2
      all_goals go_roundw
      all_goals first
       | exact ⟨j + 1, by go_num, ⟨by have := HJ.out; omega⟩, ⟨below_drew1 HD.out⟩⟩
       | (simp [intOf]; omega)
     ·have t1 : (b1v == a1v) = false := beq_eq_false_iff_ne.2 he
      clear he
      go_wp2
      go_region
      all_goals go_wp2
      all_goals go_roundw
      all_goals first
       | exact ⟨j + 1, by go_num, ⟨by have := HJ.out; omega⟩, ⟨below_drew1 HD.out⟩⟩
       | (simp [intOf]; omega)
    ·have FI := asd (FL.out wq (Kd.C_below C3c.out HD.out))
     have C3d := asd (Kd.C_below C3c.out HD.out)
     have HB7 := asd (below_step HB6.out HD.out)
     have r9 : (decide ((j : Int) + 1 < (rs.length : Int)) && ris) = false := by
      rw [Bool.and_eq_false_iff]
      by_cases q : j + 1 < rs.length
      ·right
       cases ris with
       | false => rfl
       | true => exact absurd ⟨q, rfl⟩ hj
      ·left; exact decide_eq_false (by omega)
     have OUT : ∀ K : Prop, (decide ((j : Int) + 1 < (rs.length : Int)) = false → K) → (decide ((j : Int) + 1 < (rs.length : Int)) = true → ris = false → K) → K := fun K h1 h2 => by
      cases hq : decide ((j : Int) + 1 < (rs.length : Int)) with
      | false => exact h1 hq
      | true => rw [hq] at r9; exact h2 hq r9
     clear r9 hj AJ C3c HD
     refine OUT _ (fun r1 => ?_) (fun r1 r2 => ?_)
     all_goals (try subst r2)
     all_goals clear OUT
     all_goals
      go_wp2_with (first | (go_at_call 44; refine FI.out.mono ?_; rintro e w8 ⟨r, rfl, hr, hb⟩; have HI := asd hr; have HB8 := asd (below_step HB7.out hb); have C3e := asd (Kd.C_below C3d.out hb); clear hr hb))
      go_loopw [11] (fun v11 wt => ∃ i : Nat, v11 = .int .i64 i ∧ Aside0 (i ≤ rs.length ∧ ∀ q, q < i → decide (5 ≤ ((rs.map row67).getD q z67).f1.f0) = false) ∧ Aside0 (Below w8.heap.size w8 wt)) (fun v => fun _ => 100010 - (intOf v).toNat)
      case atStart => exact ⟨0, rfl, ⟨Nat.zero_le _, fun q hq => absurd hq (by omega)⟩, ⟨Below.refl _ _⟩⟩
      case round =>
       rename World => wt
       obtain ⟨i, rfl, HW, HE⟩ := hrel
       have i99 : (i : Int) ≤ 100000 := by have := HW.out.1; have := RL.out; omega
       by_cases hi : i < rs.length
       ·have s1 : decide ((i : Int) < (rs.length : Int)) = true := decide_eq_true (by omega)
        have s0 : ((i : Int) < (rs.length : Int)) = True := eq_true (by omega)
        have s2 : decide (i < rs.length) = true := decide_eq_true hi
        obtain ⟨adb, rfl, z0, z1, z2, z3, z4⟩ := at_T67 (Kd.C_below C3e.out HE.out) (i : Int) (by omega) (by omega)
        rw [rd67] at z0 z1 z2 z3 z4
        simp only [Int.toNat_natCast] at z0 z1 z2 z3 z4
        have LT := asd (fun wv => late45_calls ((rs.map row67).getD i z67) wv)
        have HI5 : Aside0 (decide (5 ≤ ((rs.map row67).getD i z67).f1.f0) = true → r = (i : Int)) := ⟨fun h => by
         have hl : (rs.map row67).length = rs.length := List.length_map _
         rcases HI.out with ⟨_, hn⟩ | ⟨k, hk, hre, hpk, hbk⟩
         ·have h2 := hn i (by rw [hl]; exact hi)
          simp only at h2
          rw [h] at h2; cases h2
         ·rcases Nat.lt_trichotomy i k with h3 | h3 | h3
          ·have h2 := hbk i h3
           simp only at h2
           rw [h] at h2; cases h2
          ·rw [hre, h3]
          ·have h2 := HW.out.2 k h3
           simp only at hpk
           rw [hpk] at h2; cases h2⟩
        have HW5 : Aside0 (decide (5 ≤ ((rs.map row67).getD i z67).f1.f0) = false → ∀ q, q < i + 1 → decide (5 ≤ ((rs.map row67).getD q z67).f1.f0) = false) := ⟨fun h q hq => by
         by_cases e : q = i
         ·subst e; exact h
         ·exact HW.out.2 q (by omega)⟩
        generalize (rs.map row67).getD i z67 = y at z0 z1 z2 z3 z4 LT HI5 HW5
        have HIL := asd hi
        clear hi HW
        cases hb5 : decide (5 ≤ y.f1.f0) with
        | true =>
         rw [hb5] at LT
         obtain rfl := HI5.out hb5
         have u0 : mx (i : Int) 0 = (i : Int) := by unfold mx; rw [if_neg (by omega)]
         have u1 : decide (0 ≤ (i : Int)) = true := decide_eq_true (by omega)
         clear hb5 HI5 HW5 HI
         go_wp2_with (first | (go_at_call 45; refine (LT.out _).mono ?_; rintro e w9 ⟨rfl, hb⟩; have HB9 := asd (below_step (below_step HB8.out HE.out) hb); clear hb))
         go_ret
         exact ⟨rfl, HB9.out⟩
        | false =>
         rw [hb5] at LT
         have HW6 := asd (HW5.out hb5)
         clear hb5 HI5 HW5
         go_wp2_with (first | (go_at_call 45; refine (LT.out _).mono ?_; rintro e w9 ⟨rfl, hb⟩; have HB9 := asd (below_step HE.out hb); clear hb))
         go_roundw
         case rel => exact ⟨i + 1, by go_num, ⟨HIL.out, HW6.out⟩, HB9⟩
         case measure => simp [intOf]; omega
       ·have s1 : decide ((i : Int) < (rs.length : Int)) = false := decide_eq_false (by omega)
        have s2 : decide (i < rs.length) = false := decide_eq_false hi
        have hr1 : r = -1 := by
         have hl : (rs.map row67).length = rs.length := List.length_map _
         rcases HI.out with ⟨h, _⟩ | ⟨k, hk, hre, hpk, hbk⟩
         ·exact h
         ·have h2 := HW.out.2 k (by rw [hl] at hk; omega)
          simp only at hpk
          rw [hpk] at h2; cases h2
        subst hr1
        have u0 : mx (-1) 0 = 0 := by unfold mx; rw [if_pos (by omega)]
        have u1 : decide ((0 : Int) ≤ -1) = false := by decide
        have HB9 := asd (below_step HB8.out HE.out)
        clear hi HI
        go_wp2
        go_ret
        exact ⟨rfl, HB9.out⟩
theorem msplits_calls (a0 : Option Addr) (c0 : Nat) (x0 : List (List S64)) (w : World) (hr : Kd.C (Kd.slice 64 k64) w a0 x0.length x0) (hc : x0.length ≤ c0) : Calls Try.prog 7 #[.slice a0 x0.length c0] w fun e w' => e = .returned (.bool true) ∧ Below w.heap.size w w' := by
 obtain ⟨kf, b, hf, hfew⟩ := few_ev x0
 have FW := parcloselaw40_few.calls kf a0 c0 x0 b w hr hc hf
 by_cases h : b = true ∧ x0.length ≤ 64
 ·obtain ⟨rfl, h64⟩ := h
  exact msplits_light a0 c0 x0 w hr hc FW h64 (hfew rfl).2
 ·exact msplits_dark a0 c0 x0 w b FW h
end Go.Proofs.Ytalimpniimgheaa.Fn
