/- Part of the proof of MergeSplits: see the last text. (Words laid by the print, as far as they are named here; walks written by a program of this project; plain laws.) -/
import Derived.Test.YtalimpniimgheaaMergeSplitsZ0
namespace Go.Proofs.Ytalimpniimgheaa.Fn
open Go.RowKit Go.Proofs.YtalimpniimgheaaW.PrintWords Go.Proofs.YtalimpniimgheaaW.PrintLast Go.Proofs.YtalimpniimgheaaW.PrintMore
abbrev bn := @blk_drewN
abbrev bd := @blk_drew
abbrev ba := @blk_alloc
abbrev asd := @Aside0.mk
abbrev wa := @below_alloc
abbrev wn := @pw_below_drewN
abbrev wd := @below_drew1
abbrev ws := @below_set
theorem sB : (∀ (l : List Value) (i : Nat) (a : Value), l.toArray.setIfInBounds i a = (l.set i a).toArray) ∧ (∀ (a b : Value) (l : List Value), (a :: l).set 0 b = b :: l) ∧ (∀ (a b : Value) (l : List Value) (n : Nat), (a :: l).set (n + 1) b = a :: l.set n b) := ⟨fun _ _ _ => List.setIfInBounds_toArray .., fun _ _ _ => rfl, fun _ _ _ _ => rfl⟩
end Go.Proofs.Ytalimpniimgheaa.Fn

namespace Go.Proofs.Ytalimpniimgheaa.Fn
open Go.RowKit Go.Proofs.YtalimpniimgheaaW.PrintWords Go.Proofs.YtalimpniimgheaaW.PrintLast Go.Proofs.YtalimpniimgheaaW.PrintMore
attribute [local go_sem] max2_int min2_int max_two min_two max_three min_three max_four min_four
set_option linter.unusedVariables false
set_option linter.unusedSimpArgs false
def errW : Option Int → Value
 | none => .nilIface
 | some c => .iface 0 (.int .i64 c)
theorem errW_none : errW none = .nilIface := rfl
theorem errW_some (c : Int) : errW (some c) = .iface 0 (.int .i64 c) := rfl
theorem info3 : (Try.prog.info? 3).map (fun i => (i.zero, i.size, i.bytes)) = some (some (.int .i64 0), 1, 8) := by kernel_rfl
theorem info31 : (Try.prog.info? 31).map (fun i => (i.zero, i.size, i.bytes)) = some (some (.slice none 0 0), 1, 24) := by kernel_rfl
theorem info64 : (Try.prog.info? 64).map (fun i => (i.zero, i.size, i.bytes)) = some (some (.agg #[(.int .i64 0), (.int .i64 0), (.int .i64 0), (.int .i64 0)]), 4, 32) := by kernel_rfl
theorem info65 : (Try.prog.info? 65).map (fun i => (i.zero, i.size, i.bytes)) = some (some (.agg #[(.int .i64 0), (.int .i64 0), (.int .i64 0), (.int .i64 0)]), 4, 32) := by kernel_rfl
theorem info67 : (Try.prog.info? 67).map (fun i => (i.zero, i.size, i.bytes)) = some (some (.agg #[(.int .i64 0), (.int .i64 0), (.int .i64 0), (.int .i64 0), (.int .i64 0)]), 5, 40) := by kernel_rfl
structure S65 where
 f0 : Int
 f1 : Int
 f2 : Int
 f3 : Int
def z65 : S65 := ⟨(0 : Int), (0 : Int), (0 : Int), (0 : Int)⟩
def k65 : Kd S65 := Kd.iso (Kd.pair (Kd.int .i64) (Kd.pair (Kd.int .i64) (Kd.pair (Kd.int .i64) (Kd.int .i64)))) (fun x : S65 => (x.f0, x.f1, x.f2, x.f3))
theorem k65_open {w : World} {x : S65} {cs : List Value} (h : k65.K w x cs) : cs = [.int .i64 x.f0, .int .i64 x.f1, .int .i64 x.f2, .int .i64 x.f3] := by
 obtain ⟨_, _, rfl, rfl, ⟨_, _, rfl, rfl, ⟨_, _, rfl, rfl, rfl⟩⟩⟩ := h
 exact rfl
theorem k65_mk (w : World) (x : S65)  : k65.K w x [.int .i64 x.f0, .int .i64 x.f1, .int .i64 x.f2, .int .i64 x.f3] := ⟨[.int .i64 x.f0], [.int .i64 x.f1, .int .i64 x.f2, .int .i64 x.f3], rfl, rfl, ⟨[.int .i64 x.f1], [.int .i64 x.f2, .int .i64 x.f3], rfl, rfl, ⟨[.int .i64 x.f2], [.int .i64 x.f3], rfl, rfl, rfl⟩⟩⟩
theorem k65_mkM (w : World) (base : Nat) (ok : Nat → Prop) (x : S65)  : k65.M w base ok x [.int .i64 x.f0, .int .i64 x.f1, .int .i64 x.f2, .int .i64 x.f3] := ⟨[.int .i64 x.f0], [.int .i64 x.f1, .int .i64 x.f2, .int .i64 x.f3], rfl, rfl, ⟨[.int .i64 x.f1], [.int .i64 x.f2, .int .i64 x.f3], rfl, rfl, ⟨[.int .i64 x.f2], [.int .i64 x.f3], rfl, rfl, rfl⟩⟩⟩
def rd_T65 (xs : List S65) (i : Int) : S65 := xs.getD i.toNat z65
theorem at_T65 {w : World} {A : Option Addr} {n : Nat} {xs : List S65} (h : Kd.C k65 w A n xs) (i : Int) (h0 : 0 ≤ i) (h1 : i < n) : ∃ ad , A = some ad ∧ w.cell? (ad.add (i.toNat * 4)) = some (.int .i64 (rd_T65 xs i).f0) ∧ w.cell? ⟨(ad.add (i.toNat * 4)).block, (ad.add (i.toNat * 4)).off + 1, none⟩ = some (.int .i64 (rd_T65 xs i).f1) ∧ w.cell? ⟨(ad.add (i.toNat * 4)).block, (ad.add (i.toNat * 4)).off + 2, none⟩ = some (.int .i64 (rd_T65 xs i).f2) ∧ w.cell? ⟨(ad.add (i.toNat * 4)).block, (ad.add (i.toNat * 4)).off + 3, none⟩ = some (.int .i64 (rd_T65 xs i).f3) := by
 obtain ⟨ad, c, e, _, hK, hc0⟩ := Kd.C_get h z65 i h0 h1
 have hc : ∀ j u, c[j]? = some u → w.cell? (ad.add (i.toNat * 4 + j)) = some u := hc0
 obtain rfl := k65_open hK
 exact ⟨ad, e, hc 0 _ rfl, by rw [← add_field _ _ 1 (by omega)]; exact hc 1 _ rfl, by rw [← add_field _ _ 2 (by omega)]; exact hc 2 _ rfl, by rw [← add_field _ _ 3 (by omega)]; exact hc 3 _ rfl⟩
structure S64 where
 f0 : Int
 f1 : Int
 f2 : Int
 f3 : Int
def z64 : S64 := ⟨(0 : Int), (0 : Int), (0 : Int), (0 : Int)⟩
def k64 : Kd S64 := Kd.iso (Kd.pair (Kd.int .i64) (Kd.pair (Kd.int .i64) (Kd.pair (Kd.int .i64) (Kd.int .i64)))) (fun x : S64 => (x.f0, x.f1, x.f2, x.f3))
theorem k64_open {w : World} {x : S64} {cs : List Value} (h : k64.K w x cs) : cs = [.int .i64 x.f0, .int .i64 x.f1, .int .i64 x.f2, .int .i64 x.f3] := by
 obtain ⟨_, _, rfl, rfl, ⟨_, _, rfl, rfl, ⟨_, _, rfl, rfl, rfl⟩⟩⟩ := h
 exact rfl
theorem k64_mkM (w : World) (base : Nat) (ok : Nat → Prop) (x : S64)  : k64.M w base ok x [.int .i64 x.f0, .int .i64 x.f1, .int .i64 x.f2, .int .i64 x.f3] := ⟨[.int .i64 x.f0], [.int .i64 x.f1, .int .i64 x.f2, .int .i64 x.f3], rfl, rfl, ⟨[.int .i64 x.f1], [.int .i64 x.f2, .int .i64 x.f3], rfl, rfl, ⟨[.int .i64 x.f2], [.int .i64 x.f3], rfl, rfl, rfl⟩⟩⟩
def rd_T64 (xs : List S64) (i : Int) : S64 := xs.getD i.toNat z64
theorem at_T64 {w : World} {A : Option Addr} {n : Nat} {xs : List S64} (h : Kd.C k64 w A n xs) (i : Int) (h0 : 0 ≤ i) (h1 : i < n) : ∃ ad , A = some ad ∧ w.cell? (ad.add (i.toNat * 4)) = some (.int .i64 (rd_T64 xs i).f0) ∧ w.cell? ⟨(ad.add (i.toNat * 4)).block, (ad.add (i.toNat * 4)).off + 1, none⟩ = some (.int .i64 (rd_T64 xs i).f1) ∧ w.cell? ⟨(ad.add (i.toNat * 4)).block, (ad.add (i.toNat * 4)).off + 2, none⟩ = some (.int .i64 (rd_T64 xs i).f2) ∧ w.cell? ⟨(ad.add (i.toNat * 4)).block, (ad.add (i.toNat * 4)).off + 3, none⟩ = some (.int .i64 (rd_T64 xs i).f3) := by
 obtain ⟨ad, c, e, _, hK, hc0⟩ := Kd.C_get h z64 i h0 h1
 have hc : ∀ j u, c[j]? = some u → w.cell? (ad.add (i.toNat * 4 + j)) = some u := hc0
 obtain rfl := k64_open hK
 exact ⟨ad, e, hc 0 _ rfl, by rw [← add_field _ _ 1 (by omega)]; exact hc 1 _ rfl, by rw [← add_field _ _ 2 (by omega)]; exact hc 2 _ rfl, by rw [← add_field _ _ 3 (by omega)]; exact hc 3 _ rfl⟩
structure S97 where
 f0 : Int
 f1 : Int
 f2 : Int
 f3 : Int
def z97 : S97 := ⟨(0 : Int), (0 : Int), (0 : Int), (0 : Int)⟩
def k97 : Kd S97 := Kd.iso (Kd.pair (Kd.int .i64) (Kd.pair (Kd.int .i64) (Kd.pair (Kd.int .i64) (Kd.int .i64)))) (fun x : S97 => (x.f0, x.f1, x.f2, x.f3))
def rd_T97 (xs : List S97) (i : Int) : S97 := xs.getD i.toNat z97
structure S110 where
 f0 : Int
 f1 : Int
 f2 : Int
 f3 : Int
def z110 : S110 := ⟨(0 : Int), (0 : Int), (0 : Int), (0 : Int)⟩
def k110 : Kd S110 := Kd.iso (Kd.pair (Kd.int .i64) (Kd.pair (Kd.int .i64) (Kd.pair (Kd.int .i64) (Kd.int .i64)))) (fun x : S110 => (x.f0, x.f1, x.f2, x.f3))
def rd_T110 (xs : List S110) (i : Int) : S110 := xs.getD i.toNat z110
def rd_L7 (xs : List (List S64)) (i : Int) : (List S64) := xs.getD i.toNat ([] : List S64)
theorem at_L7 {w : World} {A : Option Addr} {n : Nat} {xs : List (List S64)} (h : Kd.C (Kd.slice 64 k64) w A n xs) (i : Int) (h0 : 0 ≤ i) (h1 : i < n) : ∃ ad A0 c0, A = some ad ∧ w.cell? (ad.add i.toNat) = some (.slice A0 (rd_L7 xs i).length c0) ∧ (rd_L7 xs i).length ≤ c0 ∧ k64.C w A0 (rd_L7 xs i).length (rd_L7 xs i) := by
 obtain ⟨ad, c, e, _, hK, hc0⟩ := Kd.C_get h ([] : List S64) i h0 h1
 have hc : ∀ j u, c[j]? = some u → w.cell? (ad.add (i.toNat * 1 + j)) = some u := hc0
 obtain ⟨A0, c0, rfl, l0, g0⟩ := hK
 exact ⟨ad, A0, c0, e, by have hq := hc 0 _ rfl; rwa [Nat.mul_one, Nat.add_zero] at hq, l0, g0⟩
structure S67 where
 f0 : Int
 f1 : S65
def z67 : S67 := ⟨(0 : Int), z65⟩
def k67 : Kd S67 := Kd.iso (Kd.pair (Kd.int .i64) k65) (fun x : S67 => (x.f0, x.f1))
theorem k67_open {w : World} {x : S67} {cs : List Value} (h : k67.K w x cs) : cs = [.int .i64 x.f0, .int .i64 x.f1.f0, .int .i64 x.f1.f1, .int .i64 x.f1.f2, .int .i64 x.f1.f3] := by
 obtain ⟨_, _, rfl, rfl, s1⟩ := h
 obtain rfl := k65_open s1
 exact rfl
theorem k67_mkM (w : World) (base : Nat) (ok : Nat → Prop) (x : S67)  : k67.M w base ok x [.int .i64 x.f0, .int .i64 x.f1.f0, .int .i64 x.f1.f1, .int .i64 x.f1.f2, .int .i64 x.f1.f3] := ⟨[.int .i64 x.f0], [.int .i64 x.f1.f0, .int .i64 x.f1.f1, .int .i64 x.f1.f2, .int .i64 x.f1.f3], rfl, rfl, (k65_mkM w base ok x.f1 )⟩
def rd_T67 (xs : List S67) (i : Int) : S67 := xs.getD i.toNat z67
theorem at_T67 {w : World} {A : Option Addr} {n : Nat} {xs : List S67} (h : Kd.C k67 w A n xs) (i : Int) (h0 : 0 ≤ i) (h1 : i < n) : ∃ ad , A = some ad ∧ w.cell? (ad.add (i.toNat * 5)) = some (.int .i64 (rd_T67 xs i).f0) ∧ w.cell? ⟨(ad.add (i.toNat * 5)).block, (ad.add (i.toNat * 5)).off + 1, none⟩ = some (.int .i64 (rd_T67 xs i).f1.f0) ∧ w.cell? ⟨(ad.add (i.toNat * 5)).block, (ad.add (i.toNat * 5)).off + 2, none⟩ = some (.int .i64 (rd_T67 xs i).f1.f1) ∧ w.cell? ⟨(ad.add (i.toNat * 5)).block, (ad.add (i.toNat * 5)).off + 3, none⟩ = some (.int .i64 (rd_T67 xs i).f1.f2) ∧ w.cell? ⟨(ad.add (i.toNat * 5)).block, (ad.add (i.toNat * 5)).off + 4, none⟩ = some (.int .i64 (rd_T67 xs i).f1.f3) := by
 obtain ⟨ad, c, e, _, hK, hc0⟩ := Kd.C_get h z67 i h0 h1
 have hc : ∀ j u, c[j]? = some u → w.cell? (ad.add (i.toNat * 5 + j)) = some u := hc0
 obtain rfl := k67_open hK
 exact ⟨ad, e, hc 0 _ rfl, by rw [← add_field _ _ 1 (by omega)]; exact hc 1 _ rfl, by rw [← add_field _ _ 2 (by omega)]; exact hc 2 _ rfl, by rw [← add_field _ _ 3 (by omega)]; exact hc 3 _ rfl, by rw [← add_field _ _ 4 (by omega)]; exact hc 4 _ rfl⟩
structure S117 where
 f0 : Int
 f1 : S64
def z117 : S117 := ⟨(0 : Int), z64⟩
def k117 : Kd S117 := Kd.iso (Kd.pair (Kd.int .i64) k64) (fun x : S117 => (x.f0, x.f1))
def rd_T117 (xs : List S117) (i : Int) : S117 := xs.getD i.toNat z117
def rd_L10 (xs : List (List S65)) (i : Int) : (List S65) := xs.getD i.toNat ([] : List S65)
theorem at_L10 {w : World} {A : Option Addr} {n : Nat} {xs : List (List S65)} (h : Kd.C (Kd.slice 65 k65) w A n xs) (i : Int) (h0 : 0 ≤ i) (h1 : i < n) : ∃ ad A0 c0, A = some ad ∧ w.cell? (ad.add i.toNat) = some (.slice A0 (rd_L10 xs i).length c0) ∧ (rd_L10 xs i).length ≤ c0 ∧ k65.C w A0 (rd_L10 xs i).length (rd_L10 xs i) := by
 obtain ⟨ad, c, e, _, hK, hc0⟩ := Kd.C_get h ([] : List S65) i h0 h1
 have hc : ∀ j u, c[j]? = some u → w.cell? (ad.add (i.toNat * 1 + j)) = some u := hc0
 obtain ⟨A0, c0, rfl, l0, g0⟩ := hK
 exact ⟨ad, A0, c0, e, by have hq := hc 0 _ rfl; rwa [Nat.mul_one, Nat.add_zero] at hq, l0, g0⟩
def rd_L11 (xs : List (List S97)) (i : Int) : (List S97) := xs.getD i.toNat ([] : List S97)
end Go.Proofs.Ytalimpniimgheaa.Fn
namespace Go.Proofs.Ytalimpniimgheaa.Fn
open Go.RowKit Go.Proofs.YtalimpniimgheaaW.PrintWords Go.Proofs.YtalimpniimgheaaW.PrintLast Go.Proofs.YtalimpniimgheaaW.PrintMore
set_option linter.unusedVariables false
set_option linter.unusedSimpArgs false
def Opens (P : Program) (t : TypeId) {α : Type} (d : Kd α) (Q : α → Prop) : Prop :=
 ∀ (H : Type) (enc : TypeId × Value → H) (w : World) (base : Nat) (spare : Nat → Bool) (held : Bool) (fuel : Nat) (cs : List Value) (x : DataW H × List MemPlace),
  DataW.trod enc P w base spare held fuel t cs = some x → ∃ a : α, d.K w a cs ∧ Q a
def qInt (k : IntKind) (n : Int) : Prop := (Lit.int k n).wf = true
def qAny {α : Type} (_ : α) : Prop := True
def qStr (s : ByteArray) : Prop := s.size ≤ maxLen
def qList {α : Type} (Q : α → Prop) (xs : List α) : Prop := xs.length ≤ maxLen ∧ ∀ x ∈ xs, Q x
theorem opens_int {P : Program} {t : TypeId} {k : IntKind} (ht : P.underlying t = some (.int k)) : Opens P t (Kd.int k) (qInt k) := by
 intro H enc w base spare held fuel cs x h
 obtain ⟨n, e, _, hw⟩ := DataW.trod_int ht h
 exact ⟨n, e, hw⟩
theorem list_of {α : Type} {p : Nat → α → Prop} : ∀ n, (∀ i, i < n → ∃ a, p i a) → ∃ xs : List α, xs.length = n ∧ ∀ i a, xs[i]? = some a → p i a
 | 0, _ => ⟨[], rfl, fun i a h => by simp at h⟩
 | n + 1, h => by
  obtain ⟨xs, hl, hx⟩ := list_of n (fun i hi => h i (by omega))
  obtain ⟨a, ha⟩ := h n (by omega)
  refine ⟨xs ++ [a], by simp [hl], fun i b hb => ?_⟩
  rcases Nat.lt_trichotomy i n with hi | hi | hi
  ·rw [List.getElem?_append_left (by omega)] at hb
   exact hx i b hb
  ·subst hi
   rw [← hl] at hb
   simp at hb
   subst hb
   rw [hl] at *
   exact ha
  ·rw [List.getElem?_eq_none (by simp [hl]; omega)] at hb
   cases hb
theorem opens_slice {P : Program} {t e : TypeId} {α : Type} {d : Kd α} {Q : α → Prop} (ht : P.underlying t = some (.slice e)) (hc : P.cellsOf e = d.sz) (ho : Opens P e d Q) : Opens P t (Kd.slice e d) (qList Q) := by
 intro H enc w base spare held fuel cs x h
 rcases Go.Deep.open_slice ht h with ⟨rfl, _⟩ | ⟨a, len, cap, m, n, D, Pl, rfl, _, hl, hm, hmm, _, hx⟩
 ·exact ⟨[], ⟨none, 0, rfl, Nat.le_refl _, Kd.C_nil _ _⟩, by simp, fun x hx => by cases hx⟩
 ·have hlm : len ≤ m := by rw [hmm]; split <;> omega
  obtain ⟨xs, hxl, hxs⟩ := list_of (p := fun i a' => ∃ cs', w.cells? base (a.add (i * P.cellsOf e)) (P.cellsOf e) = some cs' ∧ d.K w a' cs' ∧ Q a') len (fun i hi => by
   obtain ⟨cs', h1, h2⟩ := hx i (by omega)
   obtain ⟨a', h3, h4⟩ := ho H enc w base spare held n cs' _ h2
   exact ⟨a', cs', h1, h3, h4⟩)
  refine ⟨xs, ⟨some a, cap, by rw [hxl], by omega, ?_⟩, by omega, fun x hx => ?_⟩
  ·refine ⟨rfl, by rw [hxl]; unfold maxLen at hm; omega, fun _ => ⟨a, rfl, ?_⟩⟩
   intro j p hp
   obtain ⟨cs', h1, h2, _⟩ := hxs j p hp
   obtain ⟨_, hcl, hci⟩ := World.cells?_some h1
   refine ⟨cs', by rw [hcl, hc], h2, fun i u hu => ?_⟩
   have hi : i < cs'.length := (List.getElem?_eq_some_iff.1 hu).1
   have h4 := hci i (by omega)
   rw [hu, Go.Deep.add_add, hc] at h4
   exact h4
  ·obtain ⟨i, hi, rfl⟩ := List.mem_iff_getElem.1 hx
   obtain ⟨_, _, _, hq⟩ := hxs i _ (List.getElem?_eq_getElem hi)
   exact hq
end Go.Proofs.Ytalimpniimgheaa.Fn
namespace Go.Proofs.Ytalimpniimgheaa.Fn
open Go.RowKit Go.Proofs.YtalimpniimgheaaW.PrintWords Go.Proofs.YtalimpniimgheaaW.PrintLast Go.Proofs.YtalimpniimgheaaW.PrintMore
set_option linter.unusedVariables false
set_option linter.unusedSimpArgs false
structure Chg (S : Nat → Prop) (w w' : World) : Prop where
 os : w'.os = w.os
 tape : w'.tape = w.tape
 output : w'.output = w.output
 size : w.heap.size ≤ w'.heap.size
 block : ∀ k, k < w.heap.size → ¬ S k → w'.heap[k]? = w.heap[k]?
section
variable {S S2 : Nat → Prop} {w w1 w2 : World} {B : Nat}
theorem Chg.refl (S : Nat → Prop) (w : World) : Chg S w w := ⟨rfl, rfl, rfl, Nat.le_refl _, fun _ _ _ => rfl⟩
theorem Chg.then_ (h : Chg S w w1) (k : Chg S2 w1 w2) (hs : ∀ k, S2 k → S k ∨ w.heap.size ≤ k) : Chg S w w2 :=
 ⟨k.os.trans h.os, k.tape.trans h.tape, k.output.trans h.output, Nat.le_trans h.size k.size, fun i hi hn => (k.block i (Nat.lt_of_lt_of_le hi h.size) (fun h2 => (hs i h2).elim hn (fun h3 => by omega))).trans (h.block i hi hn)⟩
theorem Chg.trans (h : Chg S w w1) (k : Chg S w1 w2) : Chg S w w2 := h.then_ k (fun _ h => .inl h)
theorem Chg.mono (h : Chg S w w1) (hs : ∀ k, S k → S2 k) : Chg S2 w w1 := ⟨h.os, h.tape, h.output, h.size, fun i hi hn => h.block i hi (fun hk => hn (hs i hk))⟩
theorem Chg.of_below (h : Below w.heap.size w w1) (S : Nat → Prop) : Chg S w w1 := ⟨h.os, h.tape, h.output, h.size, fun i hi _ => h.block i hi⟩
theorem Chg.of_belowB (h : Below B w w1) : Chg (fun k => B ≤ k) w w1 := ⟨h.os, h.tape, h.output, h.size, fun i hi hn => h.block i (by omega)⟩
theorem Chg.to_below (h : Chg S w w1) (hS : ∀ k, S k → B ≤ k) (hB : B ≤ w.heap.size) : Below B w w1 := ⟨h.os, h.tape, h.output, h.size, fun k hk => h.block k (by omega) (fun hs => by have := hS k hs; omega)⟩
theorem Chg.below (h : Chg S w w1) (k : Below w1.heap.size w1 w2) : Chg S w w2 := h.then_ (Chg.of_below k (fun _ => False)) (fun _ hk => hk.elim)
theorem Chg.alloc (h : Chg S w w1) (o : Obj) : Chg S w (w1.alloc o) := h.below (below_alloc (Below.refl _ _) o)
theorem Chg.drew (h : Chg S w w1) : Chg S w w1.drew := ⟨h.os, h.tape, h.output, h.size, h.block⟩
theorem Chg.drewN (h : Chg S w w1) (n : Nat) : Chg S w (w1.drewN n) := ⟨h.os, h.tape, h.output, h.size, h.block⟩
theorem Chg.set_ (h : Chg S w w1) {p : Addr} (hp : S p.block ∨ w.heap.size ≤ p.block) (u : Value) : Chg S w (w1.setCell p u) :=
 h.then_ (S2 := fun k => k = p.block) ⟨rfl, rfl, rfl, by simp [World.setCell], fun i _ hn => Below.heap_setCell w1 p u i hn⟩ (fun k hk => by rw [hk]; exact hp)
theorem Chg.grown (h : Chg S w w1) {row : Option Nat} (hg : w1.grownBy w2 row) (hr : ∀ k, row = some k → S k ∨ w.heap.size ≤ k) : Chg S w w2 :=
 h.then_ (S2 := fun k => row = some k) ⟨hg.os, hg.tape, hg.output, hg.size, fun i hi hn => hg.block i hi (fun he => hn he.symm)⟩ hr
theorem blk_chg {g : Nat} {o : Obj} (hb : w.heap[g]? = some o) (hk : Chg S w w1) (hne : ¬ S g) : w1.heap[g]? = some o := (hk.block g (blk_lt hb) hne).trans hb
theorem R_chg {α : Type} {d : Kd α} {e base : Nat} {ok : Nat → Prop} {v : Value} {xs : List α} (h : d.R e w base ok v xs) (hk : Chg S w w1) (hne : ∀ k, ok k → ¬ S k) : d.R e w1 base ok v xs := Kd.R_step h (fun k ho hlt => hk.block k hlt (hne k ho))
theorem R_chgT {α : Type} {d : Kd α} {e base : Nat} {ok : Nat → Prop} {v : Value} {xs : List α} (hE : d.E = []) (h : d.R e w base ok v xs) (hk : Chg S w w1) (hn : ∀ k cells, w.heap[k]? = some (.cells cells e (0, 0)) → ¬ S k) : d.R e w1 base ok v xs :=
 Kd.R_mono (R_chg (Kd.R_tight2 hE h) hk (fun k hk => by obtain ⟨cells, hc⟩ := Kd.R_typed h k hk.1.symm; exact hn k cells hc)) (fun _ h => h.2)
def OfTypes (ts : List Nat) (w : World) (S : Nat → Prop) : Prop := ∀ k, S k → k < w.heap.size → ∃ t cells, t ∈ ts ∧ w.heap[k]? = some (.cells cells t (0, 0))
theorem OfTypes.not {ts : List Nat} (h : OfTypes ts w S) {k t : Nat} {cells : Array Value} (hb : w.heap[k]? = some (.cells cells t (0, 0))) (ht : t ∉ ts) : ¬ S k := fun hs => by
 obtain ⟨t', cells', hm, hc⟩ := h k hs (blk_lt hb)
 rw [hb] at hc
 injection hc with hc
 injection hc with _ h2
 subst h2
 exact ht hm
theorem C_ofR {α : Type} {d : Kd α} {e base n c : Nat} {ok : Nat → Prop} {A : Option Addr} {xs : List α} (h : d.R e w base ok (.slice A n c) xs) : d.C w A xs.length xs := (Kd.R_reads' h).2.2
theorem below_drewN1 (w : World) (n : Nat) : Below w.heap.size w (w.drewN n) := pw_below_drewN (Below.refl _ _) n
theorem getD_lt {α : Type} (l : List α) (z : α) {n : Nat} (h : n < l.length) : l.getD n z = l[n] := by simp [List.getD, h]
theorem max2_mx (k k' : IntKind) (x y : Int) : Builtin.max2 (.int k x) (.int k' y) = pure (.int k (mx x y)) := by rw [max2_int]; rfl
theorem min2_mn (k k' : IntKind) (x y : Int) : Builtin.min2 (.int k x) (.int k' y) = pure (.int k (mn x y)) := by rw [min2_int]; rfl
end
end Go.Proofs.Ytalimpniimgheaa.Fn
namespace Go.Proofs.Ytalimpniimgheaa.Fn
open Go.RowKit Go.Proofs.YtalimpniimgheaaW.PrintWords Go.Proofs.YtalimpniimgheaaW.PrintLast Go.Proofs.YtalimpniimgheaaW.PrintMore
set_option linter.unusedVariables false
set_option linter.unusedSimpArgs false
attribute [local go_sem] max2_mx min2_mn max_two min_two
def IsLog (w : World) (base g : Nat) (A : Option Addr) (c : Nat) (xs : List S65) (room lost : Int) : Prop :=
 w.heap[g]? = some (.cells #[.slice A xs.length c, .int .i64 room, .int .i64 lost] 105 (0, 0)) ∧ base ≤ g ∧ k65.R 65 w base (fun k => k ≠ g) (.slice A xs.length c) xs
def IsRef (w : World) (base g : Nat) (A : Option Addr) (c : Nat) (xs : List S64) (room lost : Int) : Prop :=
 w.heap[g]? = some (.cells #[.int .i64 room, .slice A xs.length c, .int .i64 lost] 36 (0, 0)) ∧ base ≤ g ∧ k64.R 64 w base (fun k => k ≠ g) (.slice A xs.length c) xs
def rowS (g : Nat) (A : Option Addr) (k : Nat) : Prop := k = g ∨ ∃ a, A = some a ∧ k = a.block
section
variable {w w1 : World} {base g : Nat} {A : Option Addr} {c : Nat} {xs : List S65} {ys : List S64} {room lost : Int} {S : Nat → Prop}
theorem IsLog.below (h : IsLog w base g A c xs room lost) (hb : Below w.heap.size w w1) : IsLog w1 base g A c xs room lost := ⟨blk_below h.1 hb, h.2.1, Kd.R_below h.2.2 hb⟩
theorem IsRef.below (h : IsRef w base g A c ys room lost) (hb : Below w.heap.size w w1) : IsRef w1 base g A c ys room lost := ⟨blk_below h.1 hb, h.2.1, Kd.R_below h.2.2 hb⟩
theorem IsLog.low (h : IsLog w base g A c xs room lost) : ∀ k, rowS g A k → base ≤ k := by
 rintro k (rfl | ⟨a, rfl, rfl⟩)
 ·exact h.2.1
 ·exact Kd.R_base h.2.2 a.block (by simp [Value.ownBlock])
theorem IsRef.low (h : IsRef w base g A c ys room lost) : ∀ k, rowS g A k → base ≤ k := by
 rintro k (rfl | ⟨a, rfl, rfl⟩)
 ·exact h.2.1
 ·exact Kd.R_base h.2.2 a.block (by simp [Value.ownBlock])
theorem IsLog.chg (h : IsLog w base g A c xs room lost) (hk : Chg S w w1) (ht : OfTypes [36, 64] w S) : IsLog w1 base g A c xs room lost :=
 ⟨blk_chg h.1 hk (ht.not h.1 (by decide)), h.2.1, R_chgT rfl h.2.2 hk (fun k cells hb => ht.not hb (by decide))⟩
theorem IsRef.chg (h : IsRef w base g A c ys room lost) (hk : Chg S w w1) (ht : OfTypes [105, 65] w S) : IsRef w1 base g A c ys room lost :=
 ⟨blk_chg h.1 hk (ht.not h.1 (by decide)), h.2.1, R_chgT rfl h.2.2 hk (fun k cells hb => ht.not hb (by decide))⟩
end
def roomOf (r : Int) : Int := mn (mx r 0) 65536
section
variable {base g : Nat} {A : Option Addr} {c : Nat} {xs : List S65} {room lost : Int}
end
end Go.Proofs.Ytalimpniimgheaa.Fn
namespace Go.Proofs.Ytalimpniimgheaa.Fn
open Go.RowKit Go.Proofs.YtalimpniimgheaaW.PrintWords Go.Proofs.YtalimpniimgheaaW.PrintLast Go.Proofs.YtalimpniimgheaaW.PrintMore
set_option linter.unusedVariables false
set_option linter.unusedSimpArgs false
attribute [local go_sem] max2_mx min2_mn max_two min_two
def IdxOf {α : Type} (p : α → Bool) (xs : List α) (z : α) (r : Int) : Prop := (r = -1 ∧ ∀ k, k < xs.length → p (xs.getD k z) = false) ∨ ∃ k : Nat, k < xs.length ∧ r = (k : Int) ∧ p (xs.getD k z) = true ∧ ∀ j, j < k → p (xs.getD j z) = false
structure Mid {α : Type} (p : α → Bool) (xs zs : List α) (i j : Nat) : Prop where
 len : zs.length = xs.length
 lt : i < j
 le : j ≤ xs.length
 kept : zs.take i = (xs.take j).filter (fun x => !p x)
 rest : zs.drop j = xs.drop j
section
variable (A : Option Addr) (c : Nat) (xs : List S65) (bx : Addr) (p : S65 → Bool)
end
section
variable (g c : Nat) (xs : List S65) (bx : Addr) (p : S65 → Bool)
end
end Go.Proofs.Ytalimpniimgheaa.Fn
namespace Go.Proofs.Ytalimpniimgheaa.Fn
open Go.RowKit Go.Proofs.YtalimpniimgheaaW.PrintWords Go.Proofs.YtalimpniimgheaaW.PrintLast Go.Proofs.YtalimpniimgheaaW.PrintMore
set_option linter.unusedVariables false
set_option linter.unusedSimpArgs false
theorem getD_set {α : Type} (l : List α) (i j : Nat) (x z : α) : (l.set i x).getD j z = if i = j ∧ i < l.length then x else l.getD j z := by
 simp only [List.getD_eq_getElem?_getD, List.getElem?_set]
 by_cases h : i = j
 ·subst h
  by_cases h2 : i < l.length
  ·simp [h2]
  ·simp [h2]
 ·simp [h]
def lessB (dus : List Int) (a b : Int) : Bool := decide (dus.getD a.toNat 0 < dus.getD b.toNat 0 ∨ (dus.getD a.toNat 0 = dus.getD b.toNat 0 ∧ a < b))
def leD (d : List Int) (a b : Int) : Prop := lessB d b a = false
theorem less_iff (d : List Int) (a b : Int) : lessB d a b = true ↔ (d.getD a.toNat 0 < d.getD b.toNat 0 ∨ (d.getD a.toNat 0 = d.getD b.toNat 0 ∧ a < b)) := by unfold lessB; rw [decide_eq_true_iff]
theorem le_iff (d : List Int) (a b : Int) : leD d a b ↔ (d.getD a.toNat 0 < d.getD b.toNat 0 ∨ (d.getD a.toNat 0 = d.getD b.toNat 0 ∧ a ≤ b)) := by unfold leD lessB; rw [decide_eq_false_iff_not]; omega
theorem le_refl' (d : List Int) (a : Int) : leD d a a := by rw [le_iff]; omega
theorem le_trans' {d : List Int} {a b c : Int} (h : leD d a b) (k : leD d b c) : leD d a c := by rw [le_iff] at *; omega
theorem le_of_less {d : List Int} {a b : Int} (h : lessB d a b = true) : leD d a b := by rw [less_iff] at h; rw [le_iff]; omega
def parN (j : Nat) : Nat := (j - 1) / 2
def swapA (ats : List Int) (i k : Nat) : List Int := (ats.set i (ats.getD k 0)).set k (ats.getD i 0)
def swapP (ats pls : List Int) (i k : Nat) : List Int := (pls.set (ats.getD k 0).toNat i).set (ats.getD i 0).toNat k
theorem swapA_length (ats : List Int) (i k : Nat) : (swapA ats i k).length = ats.length := by simp [swapA]
theorem swapP_length (ats pls : List Int) (i k : Nat) : (swapP ats pls i k).length = pls.length := by simp [swapP]
theorem swapA_get (ats : List Int) (i k j : Nat) (hi : i < ats.length) (hk : k < ats.length) : (swapA ats i k).getD j 0 = if j = k then ats.getD i 0 else if j = i then ats.getD k 0 else ats.getD j 0 := by
 unfold swapA
 rw [getD_set, getD_set, List.length_set]
 by_cases h1 : k = j
 ·rw [if_pos ⟨h1, hk⟩, if_pos h1.symm]
 ·have n1 : ¬ (k = j ∧ k < ats.length) := fun q => h1 q.1
  have n2 : ¬ (j = k) := fun e => h1 e.symm
  rw [if_neg n1, if_neg n2]
  by_cases h2 : i = j
  ·rw [if_pos ⟨h2, hi⟩, if_pos h2.symm]
  ·have n3 : ¬ (i = j ∧ i < ats.length) := fun q => h2 q.1
   have n4 : ¬ (j = i) := fun e => h2 e.symm
   rw [if_neg n3, if_neg n4]
structure Linked (ats pls dus : List Int) : Prop where
 len : pls.length = dus.length
 rng : ∀ i, i < ats.length → 0 ≤ ats.getD i 0 ∧ ats.getD i 0 < dus.length
 fwd : ∀ i, i < ats.length → pls.getD (ats.getD i 0).toNat 0 = (i : Int)
 bwd : ∀ id : Nat, id < pls.length → pls.getD id 0 = -1 ∨ ∃ i : Nat, i < ats.length ∧ pls.getD id 0 = (i : Int) ∧ ats.getD i 0 = (id : Int)
def SameIn (p q : List Int) : Prop := ∀ id : Nat, id < p.length → (q.getD id 0 = -1 ↔ p.getD id 0 = -1)
theorem Linked.inj {ats pls dus : List Int} (h : Linked ats pls dus) {i k : Nat} (hi : i < ats.length) (hk : k < ats.length) (e : ats.getD i 0 = ats.getD k 0) : i = k := by
 have h1 := h.fwd i hi
 have h2 := h.fwd k hk
 rw [e, h2] at h1
 omega
theorem swapP_get {ats pls dus : List Int} (h : Linked ats pls dus) (i k id : Nat) (hi : i < ats.length) (hk : k < ats.length) : (swapP ats pls i k).getD id 0 = if (id : Int) = ats.getD i 0 then (k : Int) else if (id : Int) = ats.getD k 0 then (i : Int) else pls.getD id 0 := by
 have ri := h.rng i hi
 have rk := h.rng k hk
 have hl := h.len
 unfold swapP
 rw [getD_set, getD_set, List.length_set]
 by_cases h1 : (id : Int) = ats.getD i 0
 ·rw [if_pos ⟨by omega, by omega⟩, if_pos h1]
 ·rw [if_neg (fun q => h1 (by omega)), if_neg h1]
  by_cases h2 : (id : Int) = ats.getD k 0
  ·rw [if_pos ⟨by omega, by omega⟩, if_pos h2]
  ·rw [if_neg (fun q => h2 (by omega)), if_neg h2]
theorem Linked.swap {ats pls dus : List Int} (h : Linked ats pls dus) {i k : Nat} (hi : i < ats.length) (hk : k < ats.length) : Linked (swapA ats i k) (swapP ats pls i k) dus ∧ SameIn pls (swapP ats pls i k) := by
 have ri := h.rng i hi
 have rk := h.rng k hk
 have hl := h.len
 refine ⟨⟨by rw [swapP_length]; exact hl, ?_, ?_, ?_⟩, ?_⟩
 ·intro j hj
  rw [swapA_length] at hj
  rw [swapA_get ats i k j hi hk]
  repeat' split
  ·exact ri
  ·exact rk
  ·exact h.rng j hj
 ·intro j hj
  rw [swapA_length] at hj
  rw [swapA_get ats i k j hi hk, swapP_get h i k _ hi hk]
  by_cases h1 : j = k
  ·subst h1
   rw [if_pos rfl, if_pos (by omega)]
  ·rw [if_neg h1]
   by_cases h2 : j = i
   ·subst h2
    rw [if_pos rfl]
    have hne : ats.getD k 0 ≠ ats.getD j 0 := fun e => h1 (h.inj hk hi e).symm
    rw [if_neg (by omega), if_pos (by omega)]
   ·rw [if_neg h2]
    have rj := h.rng j hj
    have n1 : ats.getD j 0 ≠ ats.getD i 0 := fun e => h2 (h.inj hj hi e)
    have n2 : ats.getD j 0 ≠ ats.getD k 0 := fun e => h1 (h.inj hj hk e)
    rw [if_neg (by omega), if_neg (by omega)]
    exact h.fwd j hj
 ·intro id hid
  rw [swapP_length] at hid
  rw [swapP_get h i k id hi hk]
  by_cases h1 : (id : Int) = ats.getD i 0
  ·rw [if_pos h1]
   exact .inr ⟨k, by rw [swapA_length]; exact hk, rfl, by rw [swapA_get ats i k k hi hk, if_pos rfl, h1]⟩
  ·rw [if_neg h1]
   by_cases h2 : (id : Int) = ats.getD k 0
   ·rw [if_pos h2]
    have hne : i ≠ k := fun e => h1 (by rw [e]; exact h2)
    exact .inr ⟨i, by rw [swapA_length]; exact hi, rfl, by rw [swapA_get ats i k i hi hk, if_neg hne, if_pos rfl, h2]⟩
   ·rw [if_neg h2]
    rcases h.bwd id hid with hb | ⟨j, hj, hp, ha⟩
    ·exact .inl hb
    ·have n1 : j ≠ k := fun e => h2 (by rw [← e]; exact ha.symm)
     have n2 : j ≠ i := fun e => h1 (by rw [← e]; exact ha.symm)
     exact .inr ⟨j, by rw [swapA_length]; exact hj, hp, by rw [swapA_get ats i k j hi hk, if_neg n1, if_neg n2]; exact ha⟩
 ·intro id hid
  rw [swapP_get h i k id hi hk]
  by_cases h1 : (id : Int) = ats.getD i 0
  ·rw [if_pos h1]
   have h3 := h.fwd i hi
   have e : (ats.getD i 0).toNat = id := by omega
   rw [e] at h3
   omega
  ·rw [if_neg h1]
   by_cases h2 : (id : Int) = ats.getD k 0
   ·rw [if_pos h2]
    have h3 := h.fwd k hk
    have e : (ats.getD k 0).toNat = id := by omega
    rw [e] at h3
    omega
   ·rw [if_neg h2]
theorem SameIn.trans {p q r : List Int} (h : SameIn p q) (hl : q.length = p.length) (k : SameIn q r) : SameIn p r := fun id hid => (k id (by omega)).trans (h id hid)
def HeapP (d ats : List Int) : Prop := ∀ j, 0 < j → j < ats.length → leD d (ats.getD (parN j) 0) (ats.getD j 0)
def UpInv (moved : Bool) (d ats : List Int) (i : Nat) : Prop := (∀ j, 0 < j → j < ats.length → j ≠ i → (moved = true ∨ parN j ≠ i) → leD d (ats.getD (parN j) 0) (ats.getD j 0)) ∧ (0 < i → ∀ j, 0 < j → j < ats.length → parN j = i → leD d (ats.getD (parN i) 0) (ats.getD j 0))
def DownInv (d ats : List Int) (i : Nat) : Prop := (∀ j, 0 < j → j < ats.length → parN j ≠ i → leD d (ats.getD (parN j) 0) (ats.getD j 0)) ∧ (0 < i → ∀ j, 0 < j → j < ats.length → parN j = i → leD d (ats.getD (parN i) 0) (ats.getD j 0))
theorem parN_lt {j : Nat} (h : 0 < j) : parN j < j := by unfold parN; omega
theorem heap_down {d ats : List Int} (h : HeapP d ats) (i : Nat) (hi : i < ats.length) : DownInv d ats i :=
 ⟨fun j h0 hj _ => h j h0 hj, fun h0 j hj0 hj hp => le_trans' (h i h0 hi) (by have := h j hj0 hj; rwa [hp] at this)⟩
theorem up_step {m : Bool} {d ats : List Int} {i : Nat} (h : UpInv m d ats i) (h0 : 0 < i) (hi : i < ats.length) (hl : lessB d (ats.getD i 0) (ats.getD (parN i) 0) = true) : UpInv true d (swapA ats i (parN i)) (parN i) := by
 have hp := parN_lt h0
 have hpl : parN i < ats.length := by omega
 refine ⟨?_, ?_⟩
 ·intro j hj0 hj hne _
  rw [swapA_length] at hj
  rw [swapA_get ats i _ _ hi hpl, swapA_get ats i _ _ hi hpl, if_neg hne]
  by_cases h1 : parN j = parN i
  ·rw [if_pos h1]
   by_cases h2 : j = i
   ·rw [if_pos h2]; exact le_of_less hl
   ·rw [if_neg h2]
    have h3 := h.1 j hj0 hj h2 (.inr (by omega))
    rw [h1] at h3
    exact le_trans' (le_of_less hl) h3
  ·rw [if_neg h1]
   by_cases h2 : j = i
   ·subst h2; exact absurd rfl h1
   ·rw [if_neg h2]
    by_cases h3 : parN j = i
    ·rw [if_pos h3]; exact h.2 h0 j hj0 hj h3
    ·rw [if_neg h3]; exact h.1 j hj0 hj h2 (.inr h3)
 ·intro hp0 j hj0 hj hjp
  rw [swapA_length] at hj
  have hpp := parN_lt hp0
  have hpi := h.1 (parN i) hp0 hpl (by omega) (.inr (by omega))
  rw [swapA_get ats i _ _ hi hpl, swapA_get ats i _ _ hi hpl, if_neg (by omega), if_neg (by omega), if_neg (by have := parN_lt hj0; omega)]
  by_cases h2 : j = i
  ·rw [if_pos h2]; exact hpi
  ·rw [if_neg h2]
   have h3 := h.1 j hj0 hj h2 (.inr (by omega))
   rw [hjp] at h3
   exact le_trans' hpi h3
theorem up_end {d ats : List Int} {i : Nat} (h : UpInv true d ats i) (he : i = 0 ∨ lessB d (ats.getD i 0) (ats.getD (parN i) 0) = false) : HeapP d ats := by
 intro j h0 hj
 by_cases h1 : j = i
 ·subst h1
  rcases he with he | he
  ·omega
  ·exact he
 ·exact h.1 j h0 hj h1 (.inl rfl)
theorem up_still {d ats : List Int} {i : Nat} (h : UpInv false d ats i) (he : i = 0 ∨ lessB d (ats.getD i 0) (ats.getD (parN i) 0) = false) : DownInv d ats i := by
 refine ⟨fun j h0 hj hp => ?_, h.2⟩
 by_cases h1 : j = i
 ·subst h1
  rcases he with he | he
  ·omega
  ·exact he
 ·exact h.1 j h0 hj h1 (.inr hp)
def leastF (d ats : List Int) (i : Nat) : Nat :=
 if 2 * i + 2 < ats.length ∧ lessB d (ats.getD (2 * i + 2) 0) (ats.getD (if 2 * i + 1 < ats.length ∧ lessB d (ats.getD (2 * i + 1) 0) (ats.getD i 0) = true then 2 * i + 1 else i) 0) = true then 2 * i + 2
 else if 2 * i + 1 < ats.length ∧ lessB d (ats.getD (2 * i + 1) 0) (ats.getD i 0) = true then 2 * i + 1 else i
theorem least_spec (d ats : List Int) (i : Nat) (hi : i < ats.length) : leastF d ats i < ats.length ∧ i ≤ leastF d ats i ∧ (∀ c, 0 < c → c < ats.length → parN c = i → leD d (ats.getD (leastF d ats i) 0) (ats.getD c 0)) ∧ leD d (ats.getD (leastF d ats i) 0) (ats.getD i 0) ∧ (leastF d ats i ≠ i → parN (leastF d ats i) = i) := by
 have tot : ∀ a b, lessB d a b = false → leD d b a := fun a b h => h
 unfold leastF
 by_cases c1 : 2 * i + 1 < ats.length ∧ lessB d (ats.getD (2 * i + 1) 0) (ats.getD i 0) = true
 ·simp only [if_pos c1]
  by_cases c2 : 2 * i + 2 < ats.length ∧ lessB d (ats.getD (2 * i + 2) 0) (ats.getD (2 * i + 1) 0) = true
  ·rw [if_pos c2]
   refine ⟨c2.1, by omega, ?_, le_trans' (le_of_less c2.2) (le_of_less c1.2), fun _ => by unfold parN; omega⟩
   intro c h0 hc hp
   unfold parN at hp
   rcases (by omega : c = 2 * i + 1 ∨ c = 2 * i + 2) with rfl | rfl
   ·exact le_of_less c2.2
   ·exact le_refl' _ _
  ·rw [if_neg c2]
   refine ⟨c1.1, by omega, ?_, le_of_less c1.2, fun _ => by unfold parN; omega⟩
   intro c h0 hc hp
   unfold parN at hp
   rcases (by omega : c = 2 * i + 1 ∨ c = 2 * i + 2) with rfl | rfl
   ·exact le_refl' _ _
   ·exact tot _ _ (by cases e : lessB d (ats.getD (2 * i + 2) 0) (ats.getD (2 * i + 1) 0) with
     | false => rfl
     | true => exact absurd ⟨hc, e⟩ c2)
 ·simp only [if_neg c1]
  by_cases c2 : 2 * i + 2 < ats.length ∧ lessB d (ats.getD (2 * i + 2) 0) (ats.getD i 0) = true
  ·rw [if_pos c2]
   refine ⟨c2.1, by omega, ?_, le_of_less c2.2, fun _ => by unfold parN; omega⟩
   intro c h0 hc hp
   unfold parN at hp
   rcases (by omega : c = 2 * i + 1 ∨ c = 2 * i + 2) with rfl | rfl
   ·exact le_trans' (le_of_less c2.2) (tot _ _ (by cases e : lessB d (ats.getD (2 * i + 1) 0) (ats.getD i 0) with
     | false => rfl
     | true => exact absurd ⟨hc, e⟩ c1))
   ·exact le_refl' _ _
  ·rw [if_neg c2]
   refine ⟨hi, by omega, ?_, le_refl' _ _, fun h => absurd rfl h⟩
   intro c h0 hc hp
   unfold parN at hp
   rcases (by omega : c = 2 * i + 1 ∨ c = 2 * i + 2) with rfl | rfl
   ·exact tot _ _ (by cases e : lessB d (ats.getD (2 * i + 1) 0) (ats.getD i 0) with
     | false => rfl
     | true => exact absurd ⟨hc, e⟩ c1)
   ·exact tot _ _ (by cases e : lessB d (ats.getD (2 * i + 2) 0) (ats.getD i 0) with
     | false => rfl
     | true => exact absurd ⟨hc, e⟩ c2)
theorem down_step {d ats : List Int} {i : Nat} (h : DownInv d ats i) (hi : i < ats.length) (hne : leastF d ats i ≠ i) : DownInv d (swapA ats i (leastF d ats i)) (leastF d ats i) := by
 obtain ⟨hk, hik, hc, hki, hpar⟩ := least_spec d ats i hi
 have hp := hpar hne
 generalize leastF d ats i = k at *
 refine ⟨?_, ?_⟩
 ·intro j hj0 hj hjp
  rw [swapA_length] at hj
  rw [swapA_get ats i k _ hi hk, swapA_get ats i k _ hi hk, if_neg hjp]
  by_cases h1 : parN j = i
  ·rw [if_pos h1]
   by_cases h2 : j = k
   ·rw [if_pos h2]; exact hki
   ·rw [if_neg h2, if_neg (by have := parN_lt hj0; omega)]
    exact hc j hj0 hj h1
  ·rw [if_neg h1]
   by_cases h2 : j = k
   ·subst h2; exact absurd hp h1
   ·rw [if_neg h2]
    by_cases h3 : j = i
    ·rw [if_pos h3]
     subst h3
     exact h.2 hj0 k (by omega) hk hp
    ·rw [if_neg h3]
     exact h.1 j hj0 hj h1
 ·intro h0 j hj0 hj hjp
  rw [swapA_length] at hj
  have hjk := parN_lt hj0
  rw [swapA_get ats i k _ hi hk, swapA_get ats i k _ hi hk, hp, if_neg (by omega), if_pos rfl, if_neg (by omega), if_neg (by omega)]
  have h3 := h.1 j hj0 hj (by omega)
  rwa [hjp] at h3
theorem down_end {d ats : List Int} {i : Nat} (h : DownInv d ats i) (hi : i < ats.length) (he : leastF d ats i = i) : HeapP d ats := by
 obtain ⟨_, _, hc, _, _⟩ := least_spec d ats i hi
 rw [he] at hc
 intro j h0 hj
 by_cases h1 : parN j = i
 ·rw [h1]; exact hc j h0 hj h1
 ·exact h.1 j h0 hj h1
theorem heap_min {d ats : List Int} (h : HeapP d ats) : ∀ i, i < ats.length → leD d (ats.getD 0 0) (ats.getD i 0) := by
 intro i
 induction i using Nat.strongRecOn with
 | ind i ih =>
  intro hi
  rcases Nat.eq_zero_or_pos i with rfl | h0
  ·exact le_refl' _ _
  ·have hp := parN_lt h0
   exact le_trans' (ih _ hp (by omega)) (h i h0 hi)
end Go.Proofs.Ytalimpniimgheaa.Fn
namespace Go.Proofs.Ytalimpniimgheaa.Fn
open Go.RowKit Go.Proofs.YtalimpniimgheaaW.PrintWords Go.Proofs.YtalimpniimgheaaW.PrintLast Go.Proofs.YtalimpniimgheaaW.PrintMore
set_option linter.unusedVariables false
set_option linter.unusedSimpArgs false
def hord1T : Bool × List (List Nat × List Nat) := (true, [([], []), ([0], [0]), ([1], [1]), ([2], [2]), ([], []), ([3, 4], [3, 4]), ([5], [5]), ([], []), ([7], [7]), ([8], [8]), ([9], [9]), ([], []), ([10, 11], [10, 11]), ([12], [12]), ([6, 13], [6, 13]), ([], []), ([], []), ([15, 16, 14], [15, 16]), ([14, 17], [14, 17]), ([18, 17], [18]), ([19, 19, 0, 1, 2, 3, 4, 5, 6, 7, 8, 9, 10, 11, 12, 13, 14, 15, 16, 17, 18, 19], [19])])
def hord1B : List Nat := [0, 1, 3, 7, 0, 31, 63, 0, 128, 384, 896, 0, 3968, 8064, 16383, 0, 0, 131071, 262143, 524287, 1048575]
theorem hord1_tab : rtab .any (opsOf Try.f151 1) = hord1T := by kernel_rfl
theorem hord1_bits : waitsOk hord1T.2 hord1B = true := by kernel_rfl
def hless1T : Bool × List (List Nat × List Nat) := (true, [([], []), ([], []), ([1], [1]), ([2], [2]), ([3], [3]), ([], []), ([4, 5], [4, 5]), ([6], [6]), ([], []), ([8], [8]), ([9], [9]), ([10], [10]), ([], []), ([11, 12], [11, 12]), ([13], [13]), ([0, 7, 14], [0, 7, 14]), ([15], [15]), ([16, 15, 0, 1, 2, 3, 4, 5, 6, 7, 8, 9, 10, 11, 12, 13, 14, 15, 16], [16])])
def hless1B : List Nat := [0, 0, 2, 6, 14, 0, 62, 126, 0, 256, 768, 1792, 0, 7936, 16128, 32767, 65535, 131071]
theorem hless1_tab : rtab .any (opsOf Try.f147 1) = hless1T := by kernel_rfl
theorem hless1_bits : waitsOk hless1T.2 hless1B = true := by kernel_rfl
def hset0T : Bool × List (List Nat × List Nat) := (true, [([], []), ([0], [0]), ([1], [1]), ([2], [2]), ([], []), ([], []), ([5], [5]), ([6], [6]), ([7], [7]), ([], []), ([], []), ([], []), ([3, 4, 0, 1, 2, 3, 4, 8, 10], [3, 4]), ([12, 10, 0, 1, 2, 3, 4, 8, 10], [10, 12]), ([8, 9, 0, 1, 2, 3, 4, 5, 6, 7, 8, 9, 10, 11, 12, 13], [8, 9]), ([14, 11, 13, 0, 1, 2, 3, 4, 5, 6, 7, 8, 9, 10, 11, 12, 13], [11, 14])])
def hset0B : List Nat := [0, 1, 3, 7, 0, 0, 32, 96, 224, 0, 0, 0, 1535, 5631, 16383, 32767]
theorem hset0_tab : rtab .any (opsOf Try.f137 0) = hset0T := by kernel_rfl
theorem hset0_bits : waitsOk hset0T.2 hset0B = true := by kernel_rfl
structure IsHeap (w : World) (base g : Nat) (A : Option Addr) (ca : Nat) (ats : List Int) (gp cp : Nat) (pls : List Int) (gd cd : Nat) (dus : List Int) : Prop where
 blk : w.heap[g]? = some (.cells #[.slice A ats.length ca, .slice (some ⟨gp, 0, none⟩) pls.length cp, .slice (some ⟨gd, 0, none⟩) dus.length cd, .bool true] 168 (0, 0))
 lo : base ≤ g
 n1 : gp ≠ g
 n2 : gd ≠ g
 n3 : gp ≠ gd
 ra : (Kd.int .i64).R 3 w base (fun k => k ≠ g ∧ k ≠ gp ∧ k ≠ gd) (.slice A ats.length ca) ats
 rp : (Kd.int .i64).R 3 w base (fun k => k = gp) (.slice (some ⟨gp, 0, none⟩) pls.length cp) pls
 rd : (Kd.int .i64).R 3 w base (fun k => k = gd) (.slice (some ⟨gd, 0, none⟩) dus.length cd) dus
def heapS (g : Nat) (A : Option Addr) (gp gd k : Nat) : Prop := k = g ∨ (∃ a, A = some a ∧ k = a.block) ∨ k = gp ∨ k = gd
theorem hat_int {w : World} {A : Option Addr} {n : Nat} {ys : List Int} (h : Kd.C (Kd.int .i64) w A n ys) (i : Int) (h0 : 0 ≤ i) (h1 : i < n) : ∃ ad, A = some ad ∧ w.cell? (ad.add i.toNat) = some (.int .i64 (ys.getD i.toNat 0)) := by
 obtain ⟨ad, cc, rfl, _, hK, hc0⟩ := Kd.C_get h 0 i h0 h1
 have ee : cc = [.int .i64 (ys.getD i.toNat 0)] := hK
 subst ee
 refine ⟨ad, rfl, ?_⟩
 have h := hc0 0 _ rfl
 rwa [show i.toNat * (Kd.int .i64).sz + 0 = i.toNat from Nat.mul_one _] at h
theorem Kd.R_elem_frozen {e base g n cap : Nat} {ok : Nat → Prop} {w : World} {xs : List Int} (h : (Kd.int .i64).R e w base ok (.slice (some ⟨g, 0, none⟩) n cap) xs) (i : Nat) (h1 : i < n) : w.frozen? ⟨g, i, none⟩ = false := by
 have h2 := (Kd.R_celln (enc := Value.int .i64) (h1 := fun _ => rfl) (0 : Int) h (i : Int) (by omega) (by omega)).2
 rwa [Int.toNat_natCast] at h2
section
variable {w w1 : World} {base g ca gp cp gd cd ga : Nat} {A : Option Addr} {ats pls dus : List Int}
theorem IsHeap.below (h : IsHeap w base g A ca ats gp cp pls gd cd dus) (hb : Below w.heap.size w w1) : IsHeap w1 base g A ca ats gp cp pls gd cd dus :=
 ⟨blk_below h.blk hb, h.lo, h.n1, h.n2, h.n3, Kd.R_below h.ra hb, Kd.R_below h.rp hb, Kd.R_below h.rd hb⟩
theorem IsHeap.at_ (h : IsHeap w base g (some ⟨ga, 0, none⟩) ca ats gp cp pls gd cd dus) (i : Nat) (hi : i < ats.length) : w.cell? ⟨ga, i, none⟩ = some (.int .i64 (ats.getD i 0)) := by
 obtain ⟨ad, e, hc⟩ := hat_int (C_ofR h.ra) (i : Int) (by omega) (by omega)
 obtain rfl := Option.some.inj e
 rwa [add_plain, Int.toNat_natCast] at hc
theorem IsHeap.pl_ (h : IsHeap w base g A ca ats gp cp pls gd cd dus) (i : Int) (h0 : 0 ≤ i) (h1 : i < pls.length) : w.cell? ⟨gp, i.toNat, none⟩ = some (.int .i64 (pls.getD i.toNat 0)) := by
 obtain ⟨ad, e, hc⟩ := hat_int (C_ofR h.rp) i h0 h1
 obtain rfl := Option.some.inj e
 rwa [add_plain] at hc
theorem IsHeap.due_ (h : IsHeap w base g A ca ats gp cp pls gd cd dus) (i : Int) (h0 : 0 ≤ i) (h1 : i < dus.length) : w.cell? ⟨gd, i.toNat, none⟩ = some (.int .i64 (dus.getD i.toNat 0)) := by
 obtain ⟨ad, e, hc⟩ := hat_int (C_ofR h.rd) i h0 h1
 obtain rfl := Option.some.inj e
 rwa [add_plain] at hc
theorem IsHeap.ane (h : IsHeap w base g (some ⟨ga, 0, none⟩) ca ats gp cp pls gd cd dus) : ga ≠ g ∧ ga ≠ gp ∧ ga ≠ gd := h.ra.1 ga (by simp [Value.ownBlock])
theorem IsHeap.putA (h : IsHeap w base g (some ⟨ga, 0, none⟩) ca ats gp cp pls gd cd dus) (i : Nat) (x : Int) : IsHeap (w.setCell ⟨ga, i, none⟩ (.int .i64 x)) base g (some ⟨ga, 0, none⟩) ca (ats.set i x) gp cp pls gd cd dus := by
 have hn := h.ane
 have hp := Kd.R_putn (enc := Value.int .i64) (h1 := fun _ => rfl) h.ra (i : Int) x
 rw [Int.toNat_natCast] at hp
 refine ⟨?_, h.lo, h.n1, h.n2, h.n3, ?_, ?_, ?_⟩
 ·rw [List.length_set]; exact blk_far h.blk (p := ⟨ga, i, none⟩) (fun e => hn.1 e.symm) _
 ·rw [List.length_set]; exact hp
 ·exact Kd.R_far h.rp (p := ⟨ga, i, none⟩) (fun k hk e => hn.2.1 (by rw [← hk]; exact e.symm)) _
 ·exact Kd.R_far h.rd (p := ⟨ga, i, none⟩) (fun k hk e => hn.2.2 (by rw [← hk]; exact e.symm)) _
theorem IsHeap.putP (h : IsHeap w base g A ca ats gp cp pls gd cd dus) (i : Int) (x : Int) : IsHeap (w.setCell ⟨gp, i.toNat, none⟩ (.int .i64 x)) base g A ca ats gp cp (pls.set i.toNat x) gd cd dus := by
 have hp := Kd.R_putn (enc := Value.int .i64) (h1 := fun _ => rfl) h.rp i x
 refine ⟨?_, h.lo, h.n1, h.n2, h.n3, ?_, ?_, ?_⟩
 ·rw [List.length_set]; exact blk_far h.blk (p := ⟨gp, i.toNat, none⟩) (fun e => h.n1 e.symm) _
 ·exact Kd.R_far h.ra (p := ⟨gp, i.toNat, none⟩) (fun k hk e => hk.2.1 e) _
 ·rw [List.length_set]; exact hp
 ·exact Kd.R_far h.rd (p := ⟨gp, i.toNat, none⟩) (fun k hk e => h.n3 (by rw [← hk]; exact e.symm)) _
theorem IsHeap.putD (h : IsHeap w base g A ca ats gp cp pls gd cd dus) (i : Int) (x : Int) : IsHeap (w.setCell ⟨gd, i.toNat, none⟩ (.int .i64 x)) base g A ca ats gp cp pls gd cd (dus.set i.toNat x) := by
 have hp := Kd.R_putn (enc := Value.int .i64) (h1 := fun _ => rfl) h.rd i x
 refine ⟨?_, h.lo, h.n1, h.n2, h.n3, ?_, ?_, ?_⟩
 ·rw [List.length_set]; exact blk_far h.blk (p := ⟨gd, i.toNat, none⟩) (fun e => h.n2 e.symm) _
 ·exact Kd.R_far h.ra (p := ⟨gd, i.toNat, none⟩) (fun k hk e => hk.2.2 e) _
 ·exact Kd.R_far h.rp (p := ⟨gd, i.toNat, none⟩) (fun k hk e => h.n3 (by rw [← hk]; exact e)) _
 ·rw [List.length_set]; exact hp
theorem IsHeap.low (h : IsHeap w base g A ca ats gp cp pls gd cd dus) : ∀ k, heapS g A gp gd k → base ≤ k ∧ k < w.heap.size := by
 rintro k (rfl | ⟨a, rfl, rfl⟩ | rfl | rfl)
 ·exact ⟨h.lo, blk_lt h.blk⟩
 ·exact ⟨Kd.R_base h.ra _ (by simp [Value.ownBlock]), Kd.R_lt h.ra _ (by simp [Value.ownBlock])⟩
 ·exact ⟨Kd.R_base h.rp _ (by simp [Value.ownBlock]), Kd.R_lt h.rp _ (by simp [Value.ownBlock])⟩
 ·exact ⟨Kd.R_base h.rd _ (by simp [Value.ownBlock]), Kd.R_lt h.rd _ (by simp [Value.ownBlock])⟩
theorem IsHeap.som (h : IsHeap w base g A ca ats gp cp pls gd cd dus) (hp : 0 < ats.length) : ∃ ga, A = some ⟨ga, 0, none⟩ := by
 obtain ⟨g2, cap, hv, _⟩ := Kd.R_form h.ra hp
 injection hv with ha
 exact ⟨g2, ha⟩
end
def cmpI (a b : Int) : Int := if a < b then -1 else if b < a then 1 else 0
def orI (a b : Int) : Int := if a = 0 then b else a
def ordV (dus : List Int) (a b : Int) : Int := orI (cmpI (dus.getD a.toNat 0) (dus.getD b.toNat 0)) (cmpI a b)
theorem ordV_less (dus : List Int) (a b : Int) : decide (ordV dus a b < 0) = lessB dus a b := by
 unfold ordV orI lessB cmpI
 refine decide_eq_decide.2 ?_
 repeat' split
 all_goals omega
set_option maxHeartbeats 2000000 in
set_option maxRecDepth 100000 in
theorem isNaN_calls (a : Int) (w : World) : Calls Try.prog 145 #[.int .i64 a] w fun e w' => e = .returned (.bool false) ∧ w = w' := by
 go_enter Try.func145, Try.ntmps145
 go_wp2
 go_ret
 simp
set_option maxHeartbeats 2000000 in
set_option maxRecDepth 100000 in
theorem compare_calls (a b : Int) (w : World) : Calls Try.prog 133 #[.int .i64 a, .int .i64 b] w fun e w' => e = .returned (.int .i64 (cmpI a b)) ∧ w = w' := by
 unfold cmpI
 by_cases h1 : a < b
 ·rw [if_pos h1]
  go_enter Try.func133, Try.ntmps133
  go_wp2_with (first | (go_at_call 145; refine (isNaN_calls _ _).mono ?_; rintro e w1 ⟨rfl, rfl⟩))
  go_ret
  simp
 ·rw [if_neg h1]
  by_cases h2 : b < a
  ·rw [if_pos h2]
   go_enter Try.func133, Try.ntmps133
   go_wp2_with (first | (go_at_call 145; refine (isNaN_calls _ _).mono ?_; rintro e w1 ⟨rfl, rfl⟩))
   go_ret
   simp
  ·rw [if_neg h2]
   go_enter Try.func133, Try.ntmps133
   go_wp2_with (first | (go_at_call 145; refine (isNaN_calls _ _).mono ?_; rintro e w1 ⟨rfl, rfl⟩))
   go_ret
   simp
set_option maxHeartbeats 4000000 in
set_option maxRecDepth 100000 in
theorem or2_calls (a b : Int) {g t : Nat} (w : World) (h : w.heap[g]? = some (.cells #[.int .i64 a, .int .i64 b] t (0, 0))) : Calls Try.prog 132 #[.slice (some ⟨g, 0, none⟩) 2 2] w fun e w' => e = .returned (.int .i64 (orI a b)) ∧ w = w' := by
 unfold orI
 have hx0 := (blk_cell h 0).trans rfl
 have hx1 := (blk_cell h 1).trans rfl
 clear h
 by_cases ha : a = 0
 ·subst ha
  rw [if_pos rfl]
  by_cases hb : b = 0
  ·subst hb
   go_enter Try.func132, Try.ntmps132
   go_wp2
   refine wp_loop_rounds 3 ?_
   rw [rounds_succ]
   go_wp2
   rw [rounds_succ]
   go_wp2
   rw [rounds_succ]
   go_wp2
   go_ret
   simp
  ·have d : (b == 0) = false := by simpa using hb
   have d2 : decide (b = 0) = false := decide_eq_false hb
   go_enter Try.func132, Try.ntmps132
   go_wp2
   refine wp_loop_rounds 2 ?_
   rw [rounds_succ]
   go_wp2
   rw [rounds_succ]
   go_wp2
   go_ret
   simp
 ·rw [if_neg ha]
  have d : (a == 0) = false := by simpa using ha
  have d2 : decide (a = 0) = false := decide_eq_false ha
  clear ha
  go_enter Try.func132, Try.ntmps132
  go_wp2
  refine wp_loop_rounds 1 ?_
  rw [rounds_succ]
  go_wp2
  go_ret
  simp
section
variable {w : World} {base g ca gp cp gd cd ga : Nat} {A : Option Addr} {ats pls dus : List Int}
set_option maxHeartbeats 4000000 in
set_option maxRecDepth 100000 in
theorem order_calls (h : IsHeap w base g A ca ats gp cp pls gd cd dus) (a b : Int) (ha : 0 ≤ a ∧ a < dus.length) (hb : 0 ≤ b ∧ b < dus.length) :
  Calls Try.prog 151 #[.pointer (some ⟨g, 0, none⟩), .int .i64 a, .int .i64 b] w fun e w' => e = .returned (.int .i64 (ordV dus a b)) ∧ Below w.heap.size w w' := by
 have hu := Try.underlying166
 have HS := asd h
 have HA := asd ha
 have HBd := asd hb
 have p0 : (0 ≤ a) = True := eq_true ha.1
 have p1 : (a < (dus.length : Int)) = True := eq_true ha.2
 have p2 : (0 ≤ b) = True := eq_true hb.1
 have p3 : (b < (dus.length : Int)) = True := eq_true hb.2
 have hx2 := (blk_cell h.blk 2).trans rfl
 have DA := asd (fun w' (h' : IsHeap w' base g A ca ats gp cp pls gd cd dus) => h'.due_ a ha.1 ha.2)
 have DB := asd (fun w' (h' : IsHeap w' base g A ca ats gp cp pls gd cd dus) => h'.due_ b hb.1 hb.2)
 unfold ordV
 generalize dus.getD a.toNat 0 = va at DA ⊢
 generalize dus.getD b.toNat 0 = vb at DB ⊢
 replace ha := DA.out _ h
 replace hb := DB.out _ h
 clear h
 go_enter Try.func151, Try.ntmps151
 go_wp2
 refine start_ (n := 21) (S := fun w' => w'.cell? ⟨g, 2, none⟩ = some (.slice (some ⟨gd, 0, none⟩) dus.length cd) ∧ w'.cell? ⟨gd, a.toNat, none⟩ = some (.int .i64 (va)) ∧ w'.cell? ⟨gd, b.toNat, none⟩ = some (.int .i64 (vb))) (ds := []) #[false, false, false, false, false, false, false, false, false, false, false, false, false, false, false, false, false, false, false, false, false] (by kernel_rfl) rfl rfl ⟨hx2, ha, hb⟩ (fun hHeld => ?_); refine with_tabW hord1_tab hord1_bits (fun HT_ HW_ => ?_)
 have H2 := asd (HS.out.below (below_drew1 (Below.refl _ _)))
 clear HS hx2 ha hb
 have HB := asd (below_drew1 (Below.refl w.heap.size w))
 generalize w.drew = w1 at H2 HB hHeld ⊢
 refine pure_ (i := 0) (N := (some 7)) (v := ?_) (a' := ?_) #[true, false, false, false, false, false, false, false, false, false, false, false, false, false, false, false, false, false, false, false, false] rfl rfl (any_of HT_.out (by kernel_rfl)) (fun _ _ _ h => h) (Or.inl ⟨by rfl, ?_⟩) ?_ ?_
 rotate_left
 ·intro w'
  go_simp
  with_reducible rfl
 rotate_left
 ·simp only [Act.put, sB, i64_w, i32_w]
  rfl
 refine pure_ (i := 1) (N := (some 8)) (v := ?_) (a' := ?_) #[true, true, false, false, false, false, false, false, false, false, false, false, false, false, false, false, false, false, false, false, false] rfl rfl (any_of HT_.out (by kernel_rfl)) (fun _ _ _ h => h) (Or.inl ⟨by rfl, ?_⟩) ?_ ?_
 rotate_left
 ·intro w'
  go_simp
  with_reducible rfl
 rotate_left
 ·simp only [Act.put, sB, i64_w, i32_w]
  rfl
 refine pure_ (i := 2) (N := (some 9)) (v := ?_) (a' := ?_) #[true, true, true, false, false, false, false, false, false, false, false, false, false, false, false, false, false, false, false, false, false] rfl rfl (any_of HT_.out (by kernel_rfl)) (fun _ _ _ h => h) (Or.inl ⟨by rfl, ?_⟩) ?_ ?_
 rotate_left
 ·intro w'
  go_simp
  with_reducible rfl
 rotate_left
 ·simp only [Act.put, sB, i64_w, i32_w]
  rfl
 refine take_ (i := 3) (N := (some 10)) (v := ?_) (a' := ?_) #[true, true, true, true, false, false, false, false, false, false, false, false, false, false, false, false, false, false, false, false, false] rfl rfl (take_ofW HT_.out HW_.out (by kernel_rfl)) (fun _ _ _ h => h) (Or.inl ⟨by rfl, ?_⟩) hHeld ?_ ?_
 rotate_left
 ·rintro w' ⟨s0, s1, s2⟩
  go_simp
  with_reducible rfl
 rotate_left
 ·simp only [Act.put, sB, i64_w, i32_w]
  rfl
 refine pure_ (i := 4) (N := (some 11)) (v := ?_) (a' := ?_) #[true, true, true, true, true, false, false, false, false, false, false, false, false, false, false, false, false, false, false, false, false] rfl rfl (any_of HT_.out (by kernel_rfl)) (fun _ _ _ h => h) (Or.inl ⟨by rfl, ?_⟩) ?_ ?_
 rotate_left
 ·intro w'
  go_simp
  with_reducible rfl
 rotate_left
 ·simp only [Act.put, sB, i64_w, i32_w]
  rfl
 refine pure_ (i := 5) (N := (some 12)) (v := ?_) (a' := ?_) #[true, true, true, true, true, true, false, false, false, false, false, false, false, false, false, false, false, false, false, false, false] rfl rfl (any_of HT_.out (by kernel_rfl)) (fun _ _ _ h => h) (Or.inl ⟨by rfl, ?_⟩) ?_ ?_
 rotate_left
 ·intro w'
  go_simp
  with_reducible rfl
 rotate_left
 ·simp only [Act.put, sB, i64_w, i32_w]
  rfl
 refine take_ (i := 6) (N := (some 13)) (v := ?_) (a' := ?_) #[true, true, true, true, true, true, true, false, false, false, false, false, false, false, false, false, false, false, false, false, false] rfl rfl (take_ofW HT_.out HW_.out (by kernel_rfl)) (fun _ _ _ h => h) (Or.inl ⟨by rfl, ?_⟩) hHeld ?_ ?_
 rotate_left
 ·rintro w' ⟨s0, s1, s2⟩
  go_simp
  with_reducible rfl
 rotate_left
 ·simp only [Act.put, sB, i64_w, i32_w]
  rfl
 refine pure_ (i := 7) (N := (some 14)) (v := ?_) (a' := ?_) #[true, true, true, true, true, true, true, true, false, false, false, false, false, false, false, false, false, false, false, false, false] rfl rfl (any_of HT_.out (by kernel_rfl)) (fun _ _ _ h => h) (Or.inl ⟨by rfl, ?_⟩) ?_ ?_
 rotate_left
 ·intro w'
  go_simp
  with_reducible rfl
 rotate_left
 ·simp only [Act.put, sB, i64_w, i32_w]
  rfl
 refine pure_ (i := 8) (N := (some 15)) (v := ?_) (a' := ?_) #[true, true, true, true, true, true, true, true, true, false, false, false, false, false, false, false, false, false, false, false, false] rfl rfl (any_of HT_.out (by kernel_rfl)) (fun _ _ _ h => h) (Or.inl ⟨by rfl, ?_⟩) ?_ ?_
 rotate_left
 ·intro w'
  go_simp
  with_reducible rfl
 rotate_left
 ·simp only [Act.put, sB, i64_w, i32_w]
  rfl
 refine pure_ (i := 9) (N := (some 16)) (v := ?_) (a' := ?_) #[true, true, true, true, true, true, true, true, true, true, false, false, false, false, false, false, false, false, false, false, false] rfl rfl (any_of HT_.out (by kernel_rfl)) (fun _ _ _ h => h) (Or.inl ⟨by rfl, ?_⟩) ?_ ?_
 rotate_left
 ·intro w'
  go_simp
  with_reducible rfl
 rotate_left
 ·simp only [Act.put, sB, i64_w, i32_w]
  rfl
 refine take_ (i := 10) (N := (some 17)) (v := ?_) (a' := ?_) #[true, true, true, true, true, true, true, true, true, true, true, false, false, false, false, false, false, false, false, false, false] rfl rfl (take_ofW HT_.out HW_.out (by kernel_rfl)) (fun _ _ _ h => h) (Or.inl ⟨by rfl, ?_⟩) hHeld ?_ ?_
 rotate_left
 ·rintro w' ⟨s0, s1, s2⟩
  go_simp
  with_reducible rfl
 rotate_left
 ·simp only [Act.put, sB, i64_w, i32_w]
  rfl
 refine pure_ (i := 11) (N := (some 18)) (v := ?_) (a' := ?_) #[true, true, true, true, true, true, true, true, true, true, true, true, false, false, false, false, false, false, false, false, false] rfl rfl (any_of HT_.out (by kernel_rfl)) (fun _ _ _ h => h) (Or.inl ⟨by rfl, ?_⟩) ?_ ?_
 rotate_left
 ·intro w'
  go_simp
  with_reducible rfl
 rotate_left
 ·simp only [Act.put, sB, i64_w, i32_w]
  rfl
 refine pure_ (i := 12) (N := (some 19)) (v := ?_) (a' := ?_) #[true, true, true, true, true, true, true, true, true, true, true, true, true, false, false, false, false, false, false, false, false] rfl rfl (any_of HT_.out (by kernel_rfl)) (fun _ _ _ h => h) (Or.inl ⟨by rfl, ?_⟩) ?_ ?_
 rotate_left
 ·intro w'
  go_simp
  with_reducible rfl
 rotate_left
 ·simp only [Act.put, sB, i64_w, i32_w]
  rfl
 refine take_ (i := 13) (N := (some 20)) (v := ?_) (a' := ?_) #[true, true, true, true, true, true, true, true, true, true, true, true, true, true, false, false, false, false, false, false, false] rfl rfl (take_ofW HT_.out HW_.out (by kernel_rfl)) (fun _ _ _ h => h) (Or.inl ⟨by rfl, ?_⟩) hHeld ?_ ?_
 rotate_left
 ·rintro w' ⟨s0, s1, s2⟩
  go_simp
  with_reducible rfl
 rotate_left
 ·simp only [Act.put, sB, i64_w, i32_w]
  rfl
 refine pure_ (i := 15) (N := (some 22)) (v := ?_) (a' := ?_) #[true, true, true, true, true, true, true, true, true, true, true, true, true, true, false, true, false, false, false, false, false] rfl rfl (any_of HT_.out (by kernel_rfl)) (fun _ _ _ h => h) (Or.inl ⟨by rfl, ?_⟩) ?_ ?_
 rotate_left
 ·intro w'
  go_simp
  with_reducible rfl
 rotate_left
 ·simp only [Act.put, sB, i64_w, i32_w]
  rfl
 refine pure_ (i := 16) (N := (some 23)) (v := ?_) (a' := ?_) #[true, true, true, true, true, true, true, true, true, true, true, true, true, true, false, true, true, false, false, false, false] rfl rfl (any_of HT_.out (by kernel_rfl)) (fun _ _ _ h => h) (Or.inl ⟨by rfl, ?_⟩) ?_ ?_
 rotate_left
 ·intro w'
  go_simp
  with_reducible rfl
 rotate_left
 ·simp only [Act.put, sB, i64_w, i32_w]
  rfl
 refine one_ (i := 14) (N := (some 21)) #[true, true, true, true, true, true, true, true, true, true, true, true, true, true, true, true, true, false, false, false, false] rfl rfl (one_of HT_.out (by kernel_rfl)) (by decide) (fun K hK => ?_)
 refine goes_ Try.func133 (by kernel_rfl) rfl #[.int .i64 (va), .int .i64 (vb)] (by rfl) rfl rfl (by simp [Act.eval]) ?_
 refine (compare_calls _ _ w1).mono ?_
 rintro e w2 ⟨rfl, rfl⟩
 refine ⟨_, rfl, ?_⟩
 refine hK.out _ _ ⟨(blk_cell H2.out.blk 2).trans rfl, DA.out _ H2.out, DB.out _ H2.out⟩ (fun hHeld => ?_)
 clear hK K
 refine norm_ (a' := ?_) ?_ ?_
 rotate_left
 ·show Act.put _ (some 21) _ = _
  simp only [Act.put, sB, i64_w, i32_w]
  rfl
 refine one_ (i := 17) (N := (some 24)) #[true, true, true, true, true, true, true, true, true, true, true, true, true, true, true, true, true, true, false, false, false] rfl rfl (one_of HT_.out (by kernel_rfl)) (by decide) (fun K hK => ?_)
 refine goes_ Try.func133 (by kernel_rfl) rfl #[.int .i64 a, .int .i64 b] (by rfl) rfl rfl (by simp [Act.eval]) ?_
 refine (compare_calls _ _ w1).mono ?_
 rintro e w2 ⟨rfl, rfl⟩
 refine ⟨_, rfl, ?_⟩
 refine hK.out _ _ ⟨(blk_cell H2.out.blk 2).trans rfl, DA.out _ H2.out, DB.out _ H2.out⟩ (fun hHeld => ?_)
 clear hK K
 refine norm_ (a' := ?_) ?_ ?_
 rotate_left
 ·show Act.put _ (some 24) _ = _
  simp only [Act.put, sB, i64_w, i32_w]
  rfl
 have H3 := asd (H2.out.below (below_alloc (Below.refl _ _) (.cells #[.int .i64 (cmpI (va) (vb)), .int .i64 (cmpI a b)] 3)))
 have HB3 := asd (below_alloc HB.out (.cells #[.int .i64 (cmpI (va) (vb)), .int .i64 (cmpI a b)] 3))
 have XB := asd (heap_alloc_new w1 (.cells #[.int .i64 (cmpI (va) (vb)), .int .i64 (cmpI a b)] 3))
 refine one_ (i := 18) (N := (some 25)) #[true, true, true, true, true, true, true, true, true, true, true, true, true, true, true, true, true, true, true, false, false] rfl rfl (one_of HT_.out (by kernel_rfl)) (by decide) (fun K hK => ?_)
 refine value_ (w1 := ?_) (v := ?_) (by rfl) rfl ?_ ?_
 rotate_left 2
 ·go_simp
  constructor
  ·rfl
  ·rfl
 refine hK.out _ _ ⟨(blk_cell H3.out.blk 2).trans rfl, DA.out _ H3.out, DB.out _ H3.out⟩ (fun hHeld => ?_)
 clear hK K
 refine norm_ (a' := ?_) ?_ ?_
 rotate_left
 ·show Act.put _ (some 25) _ = _
  simp only [Act.put, sB, i64_w, i32_w]
  rfl
 generalize w1.alloc (.cells #[.int .i64 (cmpI (va) (vb)), .int .i64 (cmpI a b)] 3) = w3 at H3 HB3 XB hHeld ⊢
 refine one_ (i := 19) (N := (some 26)) #[true, true, true, true, true, true, true, true, true, true, true, true, true, true, true, true, true, true, true, true, false] rfl rfl (one_of HT_.out (by kernel_rfl)) (by decide) (fun K hK => ?_)
 refine goes_ Try.func132 (by kernel_rfl) rfl #[.slice (some ⟨w1.heap.size, 0, none⟩) 2 2] (by rfl) rfl rfl (by simp [Act.eval]) ?_
 refine (or2_calls _ _ w3 XB.out).mono ?_
 rintro e w4 ⟨rfl, rfl⟩
 refine ⟨_, rfl, ?_⟩
 refine hK.out _ _ ⟨(blk_cell H3.out.blk 2).trans rfl, DA.out _ H3.out, DB.out _ H3.out⟩ (fun hHeld => ?_)
 clear hK K
 refine norm_ (a' := ?_) ?_ ?_
 rotate_left
 ·show Act.put _ (some 26) _ = _
  simp only [Act.put, sB, i64_w, i32_w]
  rfl
 refine pure_ (i := 20) (N := (some 6)) (v := ?_) (a' := ?_) #[true, true, true, true, true, true, true, true, true, true, true, true, true, true, true, true, true, true, true, true, true] rfl rfl (any_of HT_.out (by kernel_rfl)) (fun _ _ _ h => h) (Or.inl ⟨by rfl, ?_⟩) ?_ ?_
 rotate_left
 ·intro w'
  go_simp
  with_reducible rfl
 rotate_left
 ·simp only [Act.put, sB, i64_w, i32_w]
  rfl
 refine done_ (done_of HT_.out (by kernel_rfl)) ?_
 try go_wp2
 go_ret
 exact ⟨rfl, HB3.out⟩
set_option maxHeartbeats 4000000 in
set_option maxRecDepth 100000 in
theorem less_calls (h : IsHeap w base g (some ⟨ga, 0, none⟩) ca ats gp cp pls gd cd dus) (i k : Nat) (hi : i < ats.length) (hk : k < ats.length) (ha : 0 ≤ ats.getD i 0 ∧ ats.getD i 0 < dus.length) (hb : 0 ≤ ats.getD k 0 ∧ ats.getD k 0 < dus.length) :
  Calls Try.prog 147 #[.pointer (some ⟨g, 0, none⟩), .int .i64 i, .int .i64 k] w fun e w' => e = .returned (.bool (lessB dus (ats.getD i 0) (ats.getD k 0))) ∧ Below w.heap.size w w' := by
 have hu := Try.underlying166
 have HS := asd h
 have HI := asd ha
 have HK := asd hb
 have HII := asd hi
 have HKK := asd hk
 have p0 : (0 ≤ (i : Int)) = True := eq_true (by omega)
 have p1 : ((i : Int) < (ats.length : Int)) = True := eq_true (by omega)
 have p2 : (0 ≤ (k : Int)) = True := eq_true (by omega)
 have p3 : ((k : Int) < (ats.length : Int)) = True := eq_true (by omega)
 have hx0 := (blk_cell h.blk 0).trans rfl
 have AI := asd (fun w' (h' : IsHeap w' base g (some ⟨ga, 0, none⟩) ca ats gp cp pls gd cd dus) => h'.at_ i HII.out)
 have AK := asd (fun w' (h' : IsHeap w' base g (some ⟨ga, 0, none⟩) ca ats gp cp pls gd cd dus) => h'.at_ k HKK.out)
 generalize ats.getD i 0 = xi at AI HI ⊢ ha
 generalize ats.getD k 0 = xk at AK HK ⊢ hb
 clear hi hk
 have hi := AI.out _ h
 have hk := AK.out _ h
 clear h ha hb
 go_enter Try.func147, Try.ntmps147
 go_wp2
 refine start_ (n := 18) (S := fun w' => w'.cell? ⟨g, 0, none⟩ = some (.slice (some ⟨ga, 0, none⟩) ats.length ca) ∧ w'.cell? ⟨ga, i, none⟩ = some (.int .i64 (xi)) ∧ w'.cell? ⟨ga, k, none⟩ = some (.int .i64 (xk))) (ds := []) #[false, false, false, false, false, false, false, false, false, false, false, false, false, false, false, false, false, false] (by kernel_rfl) rfl rfl ⟨hx0, hi, hk⟩ (fun hHeld => ?_); refine with_tabW hless1_tab hless1_bits (fun HT_ HW_ => ?_)
 have H2 := asd (HS.out.below (below_drew1 (Below.refl _ _)))
 clear HS hx0 hi hk
 have HB := asd (below_drew1 (Below.refl w.heap.size w))
 generalize w.drew = w1 at H2 HB hHeld ⊢
 refine pure_ (i := 0) (N := (some 7)) (v := ?_) (a' := ?_) #[true, false, false, false, false, false, false, false, false, false, false, false, false, false, false, false, false, false] rfl rfl (any_of HT_.out (by kernel_rfl)) (fun _ _ _ h => h) (Or.inl ⟨by rfl, ?_⟩) ?_ ?_
 rotate_left
 ·intro w'
  go_simp
  with_reducible rfl
 rotate_left
 ·simp only [Act.put, sB, i64_w, i32_w]
  rfl
 refine pure_ (i := 1) (N := (some 8)) (v := ?_) (a' := ?_) #[true, true, false, false, false, false, false, false, false, false, false, false, false, false, false, false, false, false] rfl rfl (any_of HT_.out (by kernel_rfl)) (fun _ _ _ h => h) (Or.inl ⟨by rfl, ?_⟩) ?_ ?_
 rotate_left
 ·intro w'
  go_simp
  with_reducible rfl
 rotate_left
 ·simp only [Act.put, sB, i64_w, i32_w]
  rfl
 refine pure_ (i := 2) (N := (some 9)) (v := ?_) (a' := ?_) #[true, true, true, false, false, false, false, false, false, false, false, false, false, false, false, false, false, false] rfl rfl (any_of HT_.out (by kernel_rfl)) (fun _ _ _ h => h) (Or.inl ⟨by rfl, ?_⟩) ?_ ?_
 rotate_left
 ·intro w'
  go_simp
  with_reducible rfl
 rotate_left
 ·simp only [Act.put, sB, i64_w, i32_w]
  rfl
 refine pure_ (i := 3) (N := (some 10)) (v := ?_) (a' := ?_) #[true, true, true, true, false, false, false, false, false, false, false, false, false, false, false, false, false, false] rfl rfl (any_of HT_.out (by kernel_rfl)) (fun _ _ _ h => h) (Or.inl ⟨by rfl, ?_⟩) ?_ ?_
 rotate_left
 ·intro w'
  go_simp
  with_reducible rfl
 rotate_left
 ·simp only [Act.put, sB, i64_w, i32_w]
  rfl
 refine take_ (i := 4) (N := (some 11)) (v := ?_) (a' := ?_) #[true, true, true, true, true, false, false, false, false, false, false, false, false, false, false, false, false, false] rfl rfl (take_ofW HT_.out HW_.out (by kernel_rfl)) (fun _ _ _ h => h) (Or.inl ⟨by rfl, ?_⟩) hHeld ?_ ?_
 rotate_left
 ·rintro w' ⟨s0, s1, s2⟩
  go_simp
  with_reducible rfl
 rotate_left
 ·simp only [Act.put, sB, i64_w, i32_w]
  rfl
 refine pure_ (i := 5) (N := (some 12)) (v := ?_) (a' := ?_) #[true, true, true, true, true, true, false, false, false, false, false, false, false, false, false, false, false, false] rfl rfl (any_of HT_.out (by kernel_rfl)) (fun _ _ _ h => h) (Or.inl ⟨by rfl, ?_⟩) ?_ ?_
 rotate_left
 ·intro w'
  go_simp
  with_reducible rfl
 rotate_left
 ·simp only [Act.put, sB, i64_w, i32_w]
  rfl
 refine pure_ (i := 6) (N := (some 13)) (v := ?_) (a' := ?_) #[true, true, true, true, true, true, true, false, false, false, false, false, false, false, false, false, false, false] rfl rfl (any_of HT_.out (by kernel_rfl)) (fun _ _ _ h => h) (Or.inl ⟨by rfl, ?_⟩) ?_ ?_
 rotate_left
 ·intro w'
  go_simp
  with_reducible rfl
 rotate_left
 ·simp only [Act.put, sB, i64_w, i32_w]
  rfl
 refine take_ (i := 7) (N := (some 14)) (v := ?_) (a' := ?_) #[true, true, true, true, true, true, true, true, false, false, false, false, false, false, false, false, false, false] rfl rfl (take_ofW HT_.out HW_.out (by kernel_rfl)) (fun _ _ _ h => h) (Or.inl ⟨by rfl, ?_⟩) hHeld ?_ ?_
 rotate_left
 ·rintro w' ⟨s0, s1, s2⟩
  go_simp
  with_reducible rfl
 rotate_left
 ·simp only [Act.put, sB, i64_w, i32_w]
  rfl
 refine pure_ (i := 8) (N := (some 15)) (v := ?_) (a' := ?_) #[true, true, true, true, true, true, true, true, true, false, false, false, false, false, false, false, false, false] rfl rfl (any_of HT_.out (by kernel_rfl)) (fun _ _ _ h => h) (Or.inl ⟨by rfl, ?_⟩) ?_ ?_
 rotate_left
 ·intro w'
  go_simp
  with_reducible rfl
 rotate_left
 ·simp only [Act.put, sB, i64_w, i32_w]
  rfl
 refine pure_ (i := 9) (N := (some 16)) (v := ?_) (a' := ?_) #[true, true, true, true, true, true, true, true, true, true, false, false, false, false, false, false, false, false] rfl rfl (any_of HT_.out (by kernel_rfl)) (fun _ _ _ h => h) (Or.inl ⟨by rfl, ?_⟩) ?_ ?_
 rotate_left
 ·intro w'
  go_simp
  with_reducible rfl
 rotate_left
 ·simp only [Act.put, sB, i64_w, i32_w]
  rfl
 refine pure_ (i := 10) (N := (some 17)) (v := ?_) (a' := ?_) #[true, true, true, true, true, true, true, true, true, true, true, false, false, false, false, false, false, false] rfl rfl (any_of HT_.out (by kernel_rfl)) (fun _ _ _ h => h) (Or.inl ⟨by rfl, ?_⟩) ?_ ?_
 rotate_left
 ·intro w'
  go_simp
  with_reducible rfl
 rotate_left
 ·simp only [Act.put, sB, i64_w, i32_w]
  rfl
 refine take_ (i := 11) (N := (some 18)) (v := ?_) (a' := ?_) #[true, true, true, true, true, true, true, true, true, true, true, true, false, false, false, false, false, false] rfl rfl (take_ofW HT_.out HW_.out (by kernel_rfl)) (fun _ _ _ h => h) (Or.inl ⟨by rfl, ?_⟩) hHeld ?_ ?_
 rotate_left
 ·rintro w' ⟨s0, s1, s2⟩
  go_simp
  with_reducible rfl
 rotate_left
 ·simp only [Act.put, sB, i64_w, i32_w]
  rfl
 refine pure_ (i := 12) (N := (some 19)) (v := ?_) (a' := ?_) #[true, true, true, true, true, true, true, true, true, true, true, true, true, false, false, false, false, false] rfl rfl (any_of HT_.out (by kernel_rfl)) (fun _ _ _ h => h) (Or.inl ⟨by rfl, ?_⟩) ?_ ?_
 rotate_left
 ·intro w'
  go_simp
  with_reducible rfl
 rotate_left
 ·simp only [Act.put, sB, i64_w, i32_w]
  rfl
 refine pure_ (i := 13) (N := (some 20)) (v := ?_) (a' := ?_) #[true, true, true, true, true, true, true, true, true, true, true, true, true, true, false, false, false, false] rfl rfl (any_of HT_.out (by kernel_rfl)) (fun _ _ _ h => h) (Or.inl ⟨by rfl, ?_⟩) ?_ ?_
 rotate_left
 ·intro w'
  go_simp
  with_reducible rfl
 rotate_left
 ·simp only [Act.put, sB, i64_w, i32_w]
  rfl
 refine take_ (i := 14) (N := (some 21)) (v := ?_) (a' := ?_) #[true, true, true, true, true, true, true, true, true, true, true, true, true, true, true, false, false, false] rfl rfl (take_ofW HT_.out HW_.out (by kernel_rfl)) (fun _ _ _ h => h) (Or.inl ⟨by rfl, ?_⟩) hHeld ?_ ?_
 rotate_left
 ·rintro w' ⟨s0, s1, s2⟩
  go_simp
  with_reducible rfl
 rotate_left
 ·simp only [Act.put, sB, i64_w, i32_w]
  rfl
 refine one_ (i := 15) (N := (some 22)) #[true, true, true, true, true, true, true, true, true, true, true, true, true, true, true, true, false, false] rfl rfl (one_of HT_.out (by kernel_rfl)) (by decide) (fun K hK => ?_)
 refine goes_ Try.func151 (by kernel_rfl) rfl #[.pointer (some ⟨g, 0, none⟩), .int .i64 (xi), .int .i64 (xk)] (by rfl) rfl rfl (by simp [Act.eval]) ?_
 refine (order_calls H2.out _ _ HI.out HK.out).mono ?_
 rintro e w2 ⟨rfl, hbb⟩
 have H3 := asd (H2.out.below hbb)
 have HB3 := asd (below_step HB.out hbb)
 clear hbb
 refine ⟨_, rfl, ?_⟩
 refine hK.out _ _ ⟨(blk_cell H3.out.blk 0).trans rfl, AI.out _ H3.out, AK.out _ H3.out⟩ (fun hHeld => ?_)
 clear hK K
 refine norm_ (a' := ?_) ?_ ?_
 rotate_left
 ·show Act.put _ (some 22) _ = _
  simp only [Act.put, sB, i64_w, i32_w]
  rfl
 have LL := asd (ordV_less dus (xi) (xk))
 refine pure_ (i := 16) (N := (some 23)) (v := ?_) (a' := ?_) #[true, true, true, true, true, true, true, true, true, true, true, true, true, true, true, true, true, false] rfl rfl (any_of HT_.out (by kernel_rfl)) (fun _ _ _ h => h) (Or.inl ⟨by rfl, ?_⟩) ?_ ?_
 rotate_left
 ·intro w'
  go_simp
  with_reducible rfl
 rotate_left
 ·simp only [Act.put, sB, i64_w, i32_w]
  rfl
 refine pure_ (i := 17) (N := (some 6)) (v := ?_) (a' := ?_) #[true, true, true, true, true, true, true, true, true, true, true, true, true, true, true, true, true, true] rfl rfl (any_of HT_.out (by kernel_rfl)) (fun _ _ _ h => h) (Or.inl ⟨by rfl, ?_⟩) ?_ ?_
 rotate_left
 ·intro w'
  go_simp
  with_reducible rfl
 rotate_left
 ·simp only [Act.put, sB, i64_w, i32_w]
  rfl
 refine done_ (done_of HT_.out (by kernel_rfl)) ?_
 try go_wp2
 go_ret
 exact ⟨by rw [← LL.out]; rfl, HB3.out⟩
set_option maxHeartbeats 4000000 in
set_option maxRecDepth 100000 in
theorem set_calls (h : IsHeap w base g (some ⟨ga, 0, none⟩) ca ats gp cp pls gd cd dus) (i : Nat) (id : Int) (hi : i < ats.length) (hid : 0 ≤ id ∧ id < pls.length) :
  Calls Try.prog 137 #[.pointer (some ⟨g, 0, none⟩), .int .i64 i, .int .i64 id] w fun e w' => e = .returned (.tuple #[]) ∧ IsHeap w' base g (some ⟨ga, 0, none⟩) ca (ats.set i id) gp cp (pls.set id.toNat i) gd cd dus ∧ Chg (heapS g (some ⟨ga, 0, none⟩) gp gd) w w' := by
 have hu := Try.underlying166
 have HS := asd h
 have HI := asd hi
 have HID := asd hid
 have p0 : (0 ≤ (i : Int)) = True := eq_true (by omega)
 have p1 : ((i : Int) < (ats.length : Int)) = True := eq_true (by omega)
 have p2 : (0 ≤ id) = True := eq_true hid.1
 have p3 : (id < (pls.length : Int)) = True := eq_true hid.2
 have hx0 := (blk_cell h.blk 0).trans rfl
 have hx1 := (blk_cell h.blk 1).trans rfl
 clear h hi hid
 go_enter Try.func137, Try.ntmps137
 go_wp2
 refine start_ (n := 16) (S := fun w' => w'.cell? ⟨g, 0, none⟩ = some (.slice (some ⟨ga, 0, none⟩) ats.length ca) ∧ w'.cell? ⟨g, 1, none⟩ = some (.slice (some ⟨gp, 0, none⟩) pls.length cp)) (ds := [15]) #[false, false, false, false, false, false, false, false, false, false, false, false, false, false, false, false] (by kernel_rfl) rfl rfl ⟨hx0, hx1⟩ (fun hHeld => ?_); refine with_tabW hset0_tab hset0_bits (fun HT_ HW_ => ?_)
 have H2 := asd (HS.out.below (below_drew1 (Below.refl _ _)))
 have HC := asd ((Chg.refl (heapS g (some ⟨ga, 0, none⟩) gp gd) w).drew)
 clear HS hx0 hx1
 generalize w.drew = w1 at H2 HC hHeld ⊢
 refine pure_ (i := 0) (N := (some 6)) (v := ?_) (a' := ?_) #[true, false, false, false, false, false, false, false, false, false, false, false, false, false, false, false] rfl rfl (any_of HT_.out (by kernel_rfl)) (fun _ _ _ h => h) (Or.inl ⟨by rfl, ?_⟩) ?_ ?_
 rotate_left
 ·intro w'
  go_simp
  with_reducible rfl
 rotate_left
 ·simp only [Act.put, sB, i64_w, i32_w]
  rfl
 refine pure_ (i := 1) (N := (some 7)) (v := ?_) (a' := ?_) #[true, true, false, false, false, false, false, false, false, false, false, false, false, false, false, false] rfl rfl (any_of HT_.out (by kernel_rfl)) (fun _ _ _ h => h) (Or.inl ⟨by rfl, ?_⟩) ?_ ?_
 rotate_left
 ·intro w'
  go_simp
  with_reducible rfl
 rotate_left
 ·simp only [Act.put, sB, i64_w, i32_w]
  rfl
 refine pure_ (i := 2) (N := (some 8)) (v := ?_) (a' := ?_) #[true, true, true, false, false, false, false, false, false, false, false, false, false, false, false, false] rfl rfl (any_of HT_.out (by kernel_rfl)) (fun _ _ _ h => h) (Or.inl ⟨by rfl, ?_⟩) ?_ ?_
 rotate_left
 ·intro w'
  go_simp
  with_reducible rfl
 rotate_left
 ·simp only [Act.put, sB, i64_w, i32_w]
  rfl
 refine take_ (i := 3) (N := (some 9)) (v := ?_) (a' := ?_) #[true, true, true, true, false, false, false, false, false, false, false, false, false, false, false, false] rfl rfl (take_ofW HT_.out HW_.out (by kernel_rfl)) (fun _ _ _ h => h) (Or.inl ⟨by rfl, ?_⟩) hHeld ?_ ?_
 rotate_left
 ·rintro w' ⟨s0, s1⟩
  go_simp
  with_reducible rfl
 rotate_left
 ·simp only [Act.put, sB, i64_w, i32_w]
  rfl
 refine pure_ (i := 4) (N := (some 10)) (v := ?_) (a' := ?_) #[true, true, true, true, true, false, false, false, false, false, false, false, false, false, false, false] rfl rfl (any_of HT_.out (by kernel_rfl)) (fun _ _ _ h => h) (Or.inl ⟨by rfl, ?_⟩) ?_ ?_
 rotate_left
 ·intro w'
  go_simp
  with_reducible rfl
 rotate_left
 ·simp only [Act.put, sB, i64_w, i32_w]
  rfl
 refine pure_ (i := 5) (N := (some 11)) (v := ?_) (a' := ?_) #[true, true, true, true, true, true, false, false, false, false, false, false, false, false, false, false] rfl rfl (any_of HT_.out (by kernel_rfl)) (fun _ _ _ h => h) (Or.inl ⟨by rfl, ?_⟩) ?_ ?_
 rotate_left
 ·intro w'
  go_simp
  with_reducible rfl
 rotate_left
 ·simp only [Act.put, sB, i64_w, i32_w]
  rfl
 refine pure_ (i := 6) (N := (some 12)) (v := ?_) (a' := ?_) #[true, true, true, true, true, true, true, false, false, false, false, false, false, false, false, false] rfl rfl (any_of HT_.out (by kernel_rfl)) (fun _ _ _ h => h) (Or.inl ⟨by rfl, ?_⟩) ?_ ?_
 rotate_left
 ·intro w'
  go_simp
  with_reducible rfl
 rotate_left
 ·simp only [Act.put, sB, i64_w, i32_w]
  rfl
 refine pure_ (i := 7) (N := (some 13)) (v := ?_) (a' := ?_) #[true, true, true, true, true, true, true, true, false, false, false, false, false, false, false, false] rfl rfl (any_of HT_.out (by kernel_rfl)) (fun _ _ _ h => h) (Or.inl ⟨by rfl, ?_⟩) ?_ ?_
 rotate_left
 ·intro w'
  go_simp
  with_reducible rfl
 rotate_left
 ·simp only [Act.put, sB, i64_w, i32_w]
  rfl
 refine take_ (i := 8) (N := (some 14)) (v := ?_) (a' := ?_) #[true, true, true, true, true, true, true, true, true, false, false, false, false, false, false, false] rfl rfl (take_ofW HT_.out HW_.out (by kernel_rfl)) (fun _ _ _ h => h) (Or.inl ⟨by rfl, ?_⟩) hHeld ?_ ?_
 rotate_left
 ·rintro w' ⟨s0, s1⟩
  go_simp
  with_reducible rfl
 rotate_left
 ·simp only [Act.put, sB, i64_w, i32_w]
  rfl
 refine pure_ (i := 10) (N := (some 16)) (v := ?_) (a' := ?_) #[true, true, true, true, true, true, true, true, true, false, true, false, false, false, false, false] rfl rfl (any_of HT_.out (by kernel_rfl)) (fun _ _ _ h => h) (Or.inl ⟨by rfl, ?_⟩) ?_ ?_
 rotate_left
 ·intro w'
  go_simp
  with_reducible rfl
 rotate_left
 ·simp only [Act.put, sB, i64_w, i32_w]
  rfl
 refine pure_ (i := 12) (N := (some 18)) (v := ?_) (a' := ?_) #[true, true, true, true, true, true, true, true, true, false, true, false, true, false, false, false] rfl rfl (any_of HT_.out (by kernel_rfl)) (fun _ _ _ h => h) (Or.inl ⟨by rfl, ?_⟩) ?_ ?_
 rotate_left
 ·intro w'
  go_simp
  with_reducible rfl
 rotate_left
 ·simp only [Act.put, sB, i64_w, i32_w]
  rfl
 refine pure_ (i := 9) (N := (some 15)) (v := ?_) (a' := ?_) #[true, true, true, true, true, true, true, true, true, true, true, false, true, false, false, false] rfl rfl (any_of HT_.out (by kernel_rfl)) (fun _ _ _ h => h) (Or.inl ⟨by rfl, ?_⟩) ?_ ?_
 rotate_left
 ·intro w'
  go_simp
  with_reducible rfl
 rotate_left
 ·simp only [Act.put, sB, i64_w, i32_w]
  rfl
 refine pure_ (i := 11) (N := (some 17)) (v := ?_) (a' := ?_) #[true, true, true, true, true, true, true, true, true, true, true, true, true, false, false, false] rfl rfl (any_of HT_.out (by kernel_rfl)) (fun _ _ _ h => h) (Or.inl ⟨by rfl, ?_⟩) ?_ ?_
 rotate_left
 ·intro w'
  go_simp
  with_reducible rfl
 rotate_left
 ·simp only [Act.put, sB, i64_w, i32_w]
  rfl
 refine one_ (i := 13) (N := none) #[true, true, true, true, true, true, true, true, true, true, true, true, true, true, false, false] rfl rfl (one_of HT_.out (by kernel_rfl)) (by decide) (fun K hK => ?_)
 have hcc := H2.out.at_ i HI.out
 have hff := Kd.R_elem_frozen H2.out.ra i HI.out
 refine skip_ (w1 := ?_) (by rfl) rfl ?_ ?_
 rotate_left
 ·go_simp
  rfl
 have H3 := asd (H2.out.putA i id)
 have HC3 := asd (HC.out.set_ (p := ⟨ga, i, none⟩) (.inl (.inr (.inl ⟨_, rfl, rfl⟩))) (.int .i64 id))
 generalize w1.setCell ⟨ga, i, none⟩ (.int .i64 id) = w3 at H3 HC3 ⊢
 refine hK.out _ _ ⟨(blk_cell H3.out.blk 0).trans (by rw [List.length_set]; rfl), (blk_cell H3.out.blk 1).trans rfl⟩ (fun hHeld => ?_)
 clear hK K hcc hff
 refine pure_ (i := 14) (N := (some 19)) (v := ?_) (a' := ?_) #[true, true, true, true, true, true, true, true, true, true, true, true, true, true, true, false] rfl rfl (any_of HT_.out (by kernel_rfl)) (fun _ _ _ h => h) (Or.inl ⟨by rfl, ?_⟩) ?_ ?_
 rotate_left
 ·intro w'
  go_simp
  with_reducible rfl
 rotate_left
 ·simp only [Act.put, sB, i64_w, i32_w]
  rfl
 refine last_ (i := 15) (N := none) #[true, true, true, true, true, true, true, true, true, true, true, true, true, true, true, true] rfl rfl (one_of HT_.out (by kernel_rfl)) (by decide) (fun K hK => ?_)
 have hcc := H3.out.pl_ id HID.out.1 HID.out.2
 have hff := Kd.R_elem_frozen H3.out.rp id.toNat (by have := HID.out; omega)
 refine skip_ (w1 := ?_) (by rfl) rfl ?_ ?_
 rotate_left
 ·go_simp
  rfl
 refine hK.out _ _ ?_
 clear hK K
 refine done_ (done_of HT_.out (by kernel_rfl)) ?_
 try go_wp2
 go_end0
 exact ⟨rfl, H3.out.putP id i, HC3.out.set_ (p := ⟨gp, id.toNat, none⟩) (.inl (.inr (.inr (.inl rfl)))) _⟩
end
end Go.Proofs.Ytalimpniimgheaa.Fn
namespace Go.Proofs.Ytalimpniimgheaa.Fn
open Go.RowKit Go.Proofs.YtalimpniimgheaaW.PrintWords Go.Proofs.YtalimpniimgheaaW.PrintLast Go.Proofs.YtalimpniimgheaaW.PrintMore
set_option linter.unusedVariables false
set_option linter.unusedSimpArgs false
section
variable {w : World} {base g ca gp cp gd cd ga : Nat} {ats pls dus : List Int}
set_option maxHeartbeats 4000000 in
set_option maxRecDepth 100000 in
theorem swap_calls (h : IsHeap w base g (some ⟨ga, 0, none⟩) ca ats gp cp pls gd cd dus) (L : Linked ats pls dus) (i k : Nat) (hi : i < ats.length) (hk : k < ats.length) :
  Calls Try.prog 148 #[.pointer (some ⟨g, 0, none⟩), .int .i64 i, .int .i64 k] w fun e w' => e = .returned (.tuple #[]) ∧ IsHeap w' base g (some ⟨ga, 0, none⟩) ca (swapA ats i k) gp cp (swapP ats pls i k) gd cd dus ∧ Chg (heapS g (some ⟨ga, 0, none⟩) gp gd) w w' := by
 have hu := Try.underlying166
 have HS := asd h
 have RI := asd (show 0 ≤ ats.getD i 0 ∧ ats.getD i 0 < pls.length by rw [L.len]; exact L.rng i hi)
 have RK := asd (show 0 ≤ ats.getD k 0 ∧ ats.getD k 0 < pls.length by rw [L.len]; exact L.rng k hk)
 have p0 : (0 ≤ (i : Int)) = True := eq_true (by omega)
 have p1 : ((i : Int) < (ats.length : Int)) = True := eq_true (by omega)
 have p2 : (0 ≤ (k : Int)) = True := eq_true (by omega)
 have p3 : ((k : Int) < (ats.length : Int)) = True := eq_true (by omega)
 have HII := asd hi
 have HKK := asd hk
 have hx0 := (blk_cell h.blk 0).trans rfl
 have EA : Aside0 (swapA ats i k = (ats.set i (ats.getD k 0)).set k (ats.getD i 0)) := ⟨rfl⟩
 have EP : Aside0 (swapP ats pls i k = (pls.set (ats.getD k 0).toNat i).set (ats.getD i 0).toNat k) := ⟨rfl⟩
 have hci := h.at_ i hi
 have hck := h.at_ k hk
 generalize ats.getD i 0 = a at RI EA EP hci
 generalize ats.getD k 0 = b at RK EA EP hck
 clear h L hi hk
 go_enter Try.func148, Try.ntmps148
 go_wp2
 go_quiet (fail)
 have H2 := asd (HS.out.below (below_drewN1 _ nq))
 have HC2 := asd ((Chg.refl (heapS g (some ⟨ga, 0, none⟩) gp gd) w).drewN nq)
 clear HS hx0 hci hck
 generalize w.drewN nq = w2 at H2 HC2 ⊢
 go_wp2_with fail
 refine (set_calls H2.out i b HII.out RK.out).mono ?_
 rintro e w3 ⟨rfl, h3, hc3⟩
 have H3 := asd h3
 have HC3 := asd (HC2.out.trans hc3)
 clear h3 hc3
 go_wp2_with fail
 refine (set_calls H3.out k a (by rw [List.length_set]; exact HKK.out) (by rw [List.length_set]; exact RI.out)).mono ?_
 rintro e w4 ⟨rfl, h4, hc4⟩
 have H4 := asd h4
 have HC4 := asd (HC3.out.trans hc4)
 clear h4 hc4
 go_wp2
 go_end0
 exact ⟨rfl, by rw [EA.out, EP.out]; exact H4.out, HC4.out⟩
set_option maxHeartbeats 8000000 in
set_option maxRecDepth 100000 in
theorem up_calls (h : IsHeap w base g (some ⟨ga, 0, none⟩) ca ats gp cp pls gd cd dus) (L : Linked ats pls dus) (i : Nat) (hi : i < ats.length) (hl : ats.length ≤ 5000) (U : UpInv false dus ats i) :
  Calls Try.prog 138 #[.pointer (some ⟨g, 0, none⟩), .int .i64 i] w fun e w' => e = .returned (.tuple #[]) ∧ (∃ ats' pls', IsHeap w' base g (some ⟨ga, 0, none⟩) ca ats' gp cp pls' gd cd dus ∧ Linked ats' pls' dus ∧ SameIn pls pls' ∧ ats'.length = ats.length ∧ pls'.length = pls.length ∧ (HeapP dus ats' ∨ (ats' = ats ∧ pls' = pls ∧ DownInv dus ats i))) ∧ Chg (heapS g (some ⟨ga, 0, none⟩) gp gd) w w' := by
 have HS := asd h
 have HL := asd L
 have HN := asd (And.intro hi hl)
 have HU := asd U
 clear h L hi hl U
 go_enter Try.func138, Try.ntmps138
 go_wp2
 go_loopw [1] (fun v wr => ∃ (j : Nat) (a p : List Int) (m : Bool), v = .int .i64 j ∧ Aside0 (j < a.length ∧ a.length = ats.length ∧ p.length = pls.length ∧ SameIn pls p ∧ (m = false → j = i ∧ a = ats ∧ p = pls)) ∧ Aside0 (UpInv m dus a j) ∧ Aside0 (Linked a p dus) ∧ Aside0 (IsHeap wr base g (some ⟨ga, 0, none⟩) ca a gp cp p gd cd dus) ∧ Aside0 (Chg (heapS g (some ⟨ga, 0, none⟩) gp gd) w wr)) (fun v _ => (intOf v).toNat)
 case atStart => exact ⟨i, ats, pls, false, rfl, ⟨HN.out.1, rfl, rfl, fun _ _ => Iff.rfl, fun _ => ⟨rfl, rfl, rfl⟩⟩, HU, HL, HS, ⟨Chg.refl _ _⟩⟩
 case round =>
  clear HU HL HS
  obtain ⟨j, a, p, m, rfl, HX, HU, HL, HS, HC⟩ := hrel
  have j99 : (j : Int) ≤ 5000 := by have := HX.out.1; have := HX.out.2.1; have := HN.out.2; omega
  have DONE : Aside0 ((j = 0 ∨ lessB dus (a.getD j 0) (a.getD (parN j) 0) = false) → HeapP dus a ∨ (a = ats ∧ p = pls ∧ DownInv dus ats i)) := ⟨fun he => by
   cases m with
   | true => exact .inl (up_end HU.out he)
   | false =>
    obtain ⟨e1, e2, e3⟩ := HX.out.2.2.2.2 rfl
    subst e1; subst e2; subst e3
    exact .inr ⟨rfl, rfl, up_still HU.out he⟩⟩
  by_cases h0 : 0 < j
  ·have d0 : decide ((0 : Int) < (j : Int)) = true := decide_eq_true (by omega)
   have d1 : decide (0 < j) = true := decide_eq_true h0
   have jb : (1 : Int) ≤ (j : Int) := by omega
   have e1 : ((j : Int) - 1).tdiv 2 = ((parN j : Nat) : Int) := by rw [Int.tdiv_eq_ediv_of_nonneg (by omega)]; unfold parN; omega
   have e2 : ((j : Int) - 1) / 2 = ((parN j : Nat) : Int) := by unfold parN; omega
   have PL := asd (show parN j < a.length by have := parN_lt h0; have := HX.out.1; omega)
   have LS := asd (less_calls HS.out j (parN j) HX.out.1 PL.out (HL.out.rng j HX.out.1) (HL.out.rng _ PL.out))
   cases hlb : lessB dus (a.getD j 0) (a.getD (parN j) 0) with
   | true =>
    rw [hlb] at LS
    have NU := asd (up_step HU.out h0 HX.out.1 hlb)
    clear hlb DONE h0
    go_wp2_with fail
    refine LS.out.mono ?_
    rintro e w1 ⟨rfl, hb⟩
    have H1 := asd (HS.out.below hb)
    have HC1 := asd (HC.out.below hb)
    clear hb
    go_wp2_with fail
    refine (swap_calls H1.out HL.out j (parN j) HX.out.1 PL.out).mono ?_
    rintro e w2 ⟨rfl, h2, hc2⟩
    have H2 := asd h2
    have HC2 := asd (HC1.out.trans hc2)
    have SW := asd (HL.out.swap HX.out.1 PL.out)
    clear h2 hc2
    go_wp2
    go_roundw
    case rel => exact ⟨parN j, swapA a j (parN j), swapP a p j (parN j), true, rfl, ⟨by rw [swapA_length]; exact PL.out, by rw [swapA_length]; exact HX.out.2.1, by rw [swapP_length]; exact HX.out.2.2.1, SameIn.trans HX.out.2.2.2.1 HX.out.2.2.1 SW.out.2, fun h => by cases h⟩, NU, ⟨SW.out.1⟩, H2, HC2⟩
    case measure =>
     have hp : parN j < j := by (unfold parN; omega)
     simp [intOf]; omega
   | false =>
    rw [hlb] at LS
    have DN := asd (DONE.out (.inr hlb))
    clear hlb DONE h0
    go_wp2_with (first | (go_at_call 147; refine LS.out.mono ?_; rintro e w1 ⟨rfl, hb⟩; have H1 := asd (HS.out.below hb); have HC1 := asd (HC.out.below hb); clear hb))
    go_end0
    exact ⟨rfl, ⟨a, p, H1.out, HL.out, HX.out.2.2.2.1, HX.out.2.1, HX.out.2.2.1, DN.out⟩, HC1.out⟩
  ·have d0 : decide ((0 : Int) < (j : Int)) = false := decide_eq_false (by omega)
   have d1 : decide (0 < j) = false := decide_eq_false h0
   have DN := asd (DONE.out (.inl (by omega)))
   clear DONE h0
   go_wp2
   go_end0
   exact ⟨rfl, ⟨a, p, HS.out, HL.out, HX.out.2.2.2.1, HX.out.2.1, HX.out.2.2.1, DN.out⟩, HC.out⟩
def b1F (d ats : List Int) (i : Nat) : Nat := if 2 * i + 1 < ats.length ∧ lessB d (ats.getD (2 * i + 1) 0) (ats.getD i 0) = true then 2 * i + 1 else i
theorem leastF_b1 (d ats : List Int) (i : Nat) : leastF d ats i = if 2 * i + 2 < ats.length ∧ lessB d (ats.getD (2 * i + 2) 0) (ats.getD (b1F d ats i) 0) = true then 2 * i + 2 else b1F d ats i := rfl
set_option maxHeartbeats 8000000 in
set_option maxRecDepth 100000 in
theorem clos_calls {bx : Nat} (h : IsHeap w base g (some ⟨ga, 0, none⟩) ca ats gp cp pls gd cd dus) (L : Linked ats pls dus) (hb : w.cell? ⟨bx, 0, none⟩ = some (.pointer (some ⟨g, 0, none⟩))) (i : Nat) (hi : i < ats.length) (hl : ats.length ≤ 5000) :
  Calls Try.prog 152 #[.int .i64 i, .pointer (some ⟨bx, 0, none⟩)] w fun e w' => e = .returned (.int .i64 (leastF dus ats i)) ∧ Below w.heap.size w w' := by
 have hu := Try.underlying166
 have HS := asd h
 have HL := asd L
 have HX0 := asd hb
 have HN := asd (And.intro hi hl)
 have i99 : (i : Int) ≤ 5000 := by omega
 clear h L hb hi hl
 go_enter Try.func152, Try.ntmps152
 go_wp2
 go_loopw [4, 5] (fun v4 v5 wr => ∃ (r b : Nat), v4 = .int .i64 b ∧ v5 = .int .i64 (2 * (i : Int) + (r : Int)) ∧ Aside0 (b < ats.length ∧ (r = 1 ∧ b = i ∨ r = 2 ∧ b = b1F dus ats i ∨ r = 3 ∧ b = leastF dus ats i)) ∧ Aside0 (Below w.heap.size w wr)) (fun _ v _ => (2 * i + 4) - (intOf v).toNat)
 case atStart => exact ⟨1, i, rfl, rfl, ⟨HN.out.1, .inl ⟨rfl, rfl⟩⟩, ⟨Below.refl _ _⟩⟩
 case round =>
  obtain ⟨r, b, rfl, rfl, HR, HB⟩ := hrel
  have r99 : (r : Int) ≤ 3 := by have := HR.out.2; omega
  have r0 : (1 : Int) ≤ (r : Int) := by have := HR.out.2; omega
  have hbx := pw_cell_below HB.out HX0.out
  have HS1 := asd (HS.out.below HB.out)
  have hx0 := (blk_cell HS1.out.blk 0).trans rfl
  by_cases hr : (r : Int) ≤ 2 ∧ 2 * (i : Int) + (r : Int) < (ats.length : Int)
  ·have d0 : decide (2 * (i : Int) + (r : Int) ≤ 2 * (i : Int) + 2) = true := decide_eq_true (by omega)
   have d0b : decide ((r : Int) ≤ 2) = true := decide_eq_true (by omega)
   have d1 : decide (2 * (i : Int) + (r : Int) < (ats.length : Int)) = true := decide_eq_true hr.2
   have HK := asd (show 2 * i + r < ats.length by omega)
   have ek : (2 * (i : Int) + (r : Int)) = ((2 * i + r : Nat) : Int) := by omega
   have LS := asd (less_calls HS1.out (2 * i + r) b HK.out HR.out.1 (HL.out.rng _ HK.out) (HL.out.rng _ HR.out.1))
   rw [← ek] at LS
   have R2 := asd (show r = 1 ∨ r = 2 by omega)
   clear ek hr
   cases hlb : lessB dus (ats.getD (2 * i + r) 0) (ats.getD b 0) with
   | true =>
    rw [hlb] at LS
    have NB : Aside0 (r + 1 = 1 ∧ 2 * i + r = i ∨ r + 1 = 2 ∧ 2 * i + r = b1F dus ats i ∨ r + 1 = 3 ∧ 2 * i + r = leastF dus ats i) := ⟨by
     rcases R2.out with rfl | rfl
     ·have hbb : b = i := by have := HR.out.2; omega
      subst hbb
      exact .inr (.inl ⟨rfl, by unfold b1F; rw [if_pos ⟨HK.out, hlb⟩]⟩)
     ·have hbb : b = b1F dus ats i := by have := HR.out.2; omega
      subst hbb
      exact .inr (.inr ⟨rfl, by rw [leastF_b1, if_pos ⟨HK.out, hlb⟩]⟩)⟩
    clear hlb
    go_wp2_with (first | (go_at_call 147; refine LS.out.mono ?_; rintro e w1 ⟨rfl, hb⟩; have HB1 := asd (below_step HB.out hb); clear hb))
    go_roundw
    case rel => exact ⟨r + 1, 2 * i + r, by go_num, by go_num, ⟨HK.out, NB.out⟩, HB1⟩
    case measure => simp [intOf]; omega
   | false =>
    rw [hlb] at LS
    have NB : Aside0 (r + 1 = 1 ∧ b = i ∨ r + 1 = 2 ∧ b = b1F dus ats i ∨ r + 1 = 3 ∧ b = leastF dus ats i) := ⟨by
     rcases R2.out with rfl | rfl
     ·have hbb : b = i := by have := HR.out.2; omega
      subst hbb
      exact .inr (.inl ⟨rfl, by unfold b1F; rw [if_neg (fun q => by rw [hlb] at q; exact absurd q.2 (by decide))]⟩)
     ·have hbb : b = b1F dus ats i := by have := HR.out.2; omega
      subst hbb
      exact .inr (.inr ⟨rfl, by rw [leastF_b1, if_neg (fun q => by rw [hlb] at q; exact absurd q.2 (by decide))]⟩)⟩
    clear hlb
    go_wp2_with (first | (go_at_call 147; refine LS.out.mono ?_; rintro e w1 ⟨rfl, hb⟩; have HB1 := asd (below_step HB.out hb); clear hb))
    go_roundw
    case rel => exact ⟨r + 1, b, rfl, by go_num, ⟨HR.out.1, NB.out⟩, HB1⟩
    case measure => simp [intOf]; omega
  ·have BE : Aside0 (b = leastF dus ats i) := ⟨by
    rcases HR.out.2 with ⟨rfl, rfl⟩ | ⟨rfl, rfl⟩ | ⟨rfl, rfl⟩
    ·rw [leastF_b1]; unfold b1F; rw [if_neg (fun q => by have := q.1; omega), if_neg (fun q => by have := q.1; omega)]
    ·rw [leastF_b1, if_neg (fun q => by have := q.1; omega)]
    ·rfl⟩
   by_cases h2 : (r : Int) ≤ 2
   ·have d0 : decide (2 * (i : Int) + (r : Int) ≤ 2 * (i : Int) + 2) = true := decide_eq_true (by omega)
    have d0b : decide ((r : Int) ≤ 2) = true := decide_eq_true h2
    have d1 : decide (2 * (i : Int) + (r : Int) < (ats.length : Int)) = false := decide_eq_false (fun q => hr ⟨h2, q⟩)
    clear hr h2
    go_wp2
    go_ret
    exact ⟨by rw [← BE.out]; try rfl, HB.out⟩
   ·have d0 : decide (2 * (i : Int) + (r : Int) ≤ 2 * (i : Int) + 2) = false := decide_eq_false (by omega)
    have d0b : decide ((r : Int) ≤ 2) = false := decide_eq_false h2
    clear hr h2
    go_wp2
    go_ret
    exact ⟨by rw [← BE.out]; try rfl, HB.out⟩
set_option maxHeartbeats 8000000 in
set_option maxRecDepth 100000 in
theorem down_calls (h : IsHeap w base g (some ⟨ga, 0, none⟩) ca ats gp cp pls gd cd dus) (L : Linked ats pls dus) (i : Nat) (hi : i < ats.length) (hl : ats.length ≤ 5000) (D : DownInv dus ats i) :
  Calls Try.prog 149 #[.pointer (some ⟨g, 0, none⟩), .int .i64 i] w fun e w' => e = .returned (.tuple #[]) ∧ (∃ ats' pls', IsHeap w' base g (some ⟨ga, 0, none⟩) ca ats' gp cp pls' gd cd dus ∧ Linked ats' pls' dus ∧ SameIn pls pls' ∧ ats'.length = ats.length ∧ pls'.length = pls.length ∧ HeapP dus ats') ∧ Chg (heapS g (some ⟨ga, 0, none⟩) gp gd) w w' := by
 have BX := asd (heap_alloc_new w (.cells #[.pointer (some ⟨g, 0, none⟩)] 201))
 have NS : Aside0 (¬ heapS g (some ⟨ga, 0, none⟩) gp gd w.heap.size) := ⟨fun hs => by have := (h.low _ hs).2; omega⟩
 have HS := asd (h.below (below_alloc (Below.refl _ _) (.cells #[.pointer (some ⟨g, 0, none⟩)] 201)))
 have HC := asd ((Chg.refl (heapS g (some ⟨ga, 0, none⟩) gp gd) w).alloc (.cells #[.pointer (some ⟨g, 0, none⟩)] 201))
 have HL := asd L
 have HN := asd (And.intro hi hl)
 have HD := asd D
 clear h L hi hl D
 go_enter Try.func149, Try.ntmps149
 go_wp2_with fail
 refine (clos_calls HS.out HL.out ((blk_cell BX.out 0).trans rfl) i HN.out.1 HN.out.2).mono ?_
 rintro e w1 ⟨rfl, hb⟩
 have H1 := asd (HS.out.below hb)
 have HC1 := asd (HC.out.below hb)
 have BX1 := asd (blk_below BX.out hb)
 clear hb HS HC BX
 generalize w.heap.size = bx at BX1 NS ⊢
 go_wp2
 go_loopw [1, 5] (fun v1 v5 wr => ∃ (j : Nat) (a p : List Int), v1 = .int .i64 j ∧ v5 = .int .i64 (leastF dus a j) ∧ Aside0 (j < a.length ∧ a.length = ats.length ∧ p.length = pls.length ∧ SameIn pls p) ∧ Aside0 (DownInv dus a j) ∧ Aside0 (Linked a p dus) ∧ Aside0 (IsHeap wr base g (some ⟨ga, 0, none⟩) ca a gp cp p gd cd dus) ∧ Aside0 (Chg (heapS g (some ⟨ga, 0, none⟩) gp gd) w wr) ∧ Aside0 (wr.heap[bx]? = some (.cells #[.pointer (some ⟨g, 0, none⟩)] 201 (0, 0)))) (fun v _ _ => ats.length - (intOf v).toNat)
 case atStart => exact ⟨i, ats, pls, rfl, rfl, ⟨HN.out.1, rfl, rfl, fun _ _ => Iff.rfl⟩, HD, HL, H1, HC1, BX1⟩
 case round =>
  clear HD HL H1 HC1 BX1
  obtain ⟨j, a, p, rfl, rfl, HX, HD, HL, HS, HC, BX⟩ := hrel
  have hbx := (blk_cell BX.out 0).trans rfl
  have LSP := asd (least_spec dus a j HX.out.1)
  by_cases hne : leastF dus a j = j
  ·have DN := asd (down_end HD.out HX.out.1 hne)
   rw [hne]
   clear hne LSP
   go_wp2
   go_end0
   exact ⟨rfl, ⟨a, p, HS.out, HL.out, HX.out.2.2.2, HX.out.2.1, HX.out.2.2.1, DN.out⟩, HC.out⟩
  ·have ND := asd (down_step HD.out HX.out.1 hne)
   have KG := asd (show leastF dus a j < a.length ∧ j < leastF dus a j by have := LSP.out.1; have := LSP.out.2.1; omega)
   have d0 : ((leastF dus a j : Int) == (j : Int)) = false := beq_eq_false_iff_ne.2 (by omega)
   have d1 : decide ((leastF dus a j : Int) = (j : Int)) = false := decide_eq_false (by omega)
   have d2 : decide (leastF dus a j = j) = false := decide_eq_false hne
   have d3 : (leastF dus a j == j) = false := beq_eq_false_iff_ne.2 hne
   generalize leastF dus a j = k at *
   clear hne LSP
   go_wp2_with fail
   refine (swap_calls HS.out HL.out j k HX.out.1 KG.out.1).mono ?_
   rintro e w2 ⟨rfl, h2, hc2⟩
   have H2 := asd h2
   have HC2 := asd (HC.out.trans hc2)
   have SW := asd (HL.out.swap HX.out.1 KG.out.1)
   have BX2 := asd (blk_chg BX.out hc2 NS.out)
   clear h2 hc2 hbx
   go_wp2_with fail
   refine (clos_calls H2.out SW.out.1 ((blk_cell BX2.out 0).trans rfl) k (by rw [swapA_length]; exact KG.out.1) (by rw [swapA_length, HX.out.2.1]; exact HN.out.2)).mono ?_
   rintro e w3 ⟨rfl, hb⟩
   have H3 := asd (H2.out.below hb)
   have HC3 := asd (HC2.out.below hb)
   have BX3 := asd (blk_below BX2.out hb)
   clear hb
   go_wp2
   go_roundw
   case rel => exact ⟨k, swapA a j k, swapP a p j k, rfl, rfl, ⟨by rw [swapA_length]; exact KG.out.1, by rw [swapA_length]; exact HX.out.2.1, by rw [swapP_length]; exact HX.out.2.2.1, SameIn.trans HX.out.2.2.2 HX.out.2.2.1 SW.out.2⟩, ND, ⟨SW.out.1⟩, H3, HC3, BX3⟩
   case measure => have := KG.out; have := HX.out; simp [intOf]; omega
end
end Go.Proofs.Ytalimpniimgheaa.Fn
namespace Go.Proofs.Ytalimpniimgheaa.Fn
open Go.RowKit Go.Proofs.YtalimpniimgheaaW.PrintWords Go.Proofs.YtalimpniimgheaaW.PrintLast Go.Proofs.YtalimpniimgheaaW.PrintMore
set_option linter.unusedVariables false
set_option linter.unusedSimpArgs false
theorem twoL_ {P : Program} {ops : Array Oper} {Q : Exit → Act → World → Prop} {md : Region.Mode} {S : World → Prop} {ds : List Nat} {i j : Nat} {Ni Nj : Option Tmp} {oi oj : Oper} {fuel : Nat} {l : Array Bool} {a : Act} {w : World} (li lj : Array Bool) (hi : ops[i]? = some oi) (hj : ops[j]? = some oj) (hNi : oi.dst = Ni) (hNj : oj.dst = Nj)
  (hc : (Region.ready md ops l == [i, j] && l.setIfInBounds i true == li && l.setIfInBounds j true == lj) = true) (hdi : i ∈ ds) (hdj : j ∈ ds)
  (h1 : ∀ K : Act → World → Prop, Shut (∀ a' w', wpAnyLast P md ops Q S ds fuel li a' w' → K a' w') → if Region.wanted oi (yielded ops a.tmps) = true then Oper.wp P oi a w K Q else K (a.put Ni undef) w)
  (h2 : ∀ K : Act → World → Prop, Shut (∀ a' w', wpAnyLast P md ops Q S ds fuel lj a' w' → K a' w') → if Region.wanted oj (yielded ops a.tmps) = true then Oper.wp P oj a w K Q else K (a.put Nj undef) w) :
  wpAnyLast P md ops Q S ds (fuel + 1) l a w := by
 subst hNi
 subst hNj
 simp only [Bool.and_eq_true, beq_iff_eq] at hc
 obtain ⟨⟨h3, h4⟩, h5⟩ := hc
 subst h4
 subst h5
 exact wpAnyLast_ready h3 (by simp) (AllReadyL.cons_last hi hdi (fun K hK => h1 K hK) (AllReadyL.cons_last hj hdj (fun K hK => h2 K hK) AllReadyL.nil))
attribute [local go_sem] max2_mx min2_mn max_two min_two
def hnew2T : Bool × List (List Nat × List Nat) := (true, [([], []), ([0, 0], [0]), ([], []), ([2, 2], [2]), ([1, 3], [1, 3]), ([4], [4]), ([5], [5]), ([6, 0, 1, 2, 3, 4, 5, 6], [6])])
def hnew2B : List Nat := [0, 1, 0, 4, 15, 31, 63, 127]
theorem hnew2_tab : rtab .any (opsOf Try.f79 2) = hnew2T := by kernel_rfl
theorem hnew2_bits : waitsOk hnew2T.2 hnew2B = true := by kernel_rfl
structure HOK (w : World) (base g : Nat) (A : Option Addr) (ca : Nat) (ats : List Int) (gp cp : Nat) (pls : List Int) (gd cd : Nat) (dus : List Int) : Prop where
 is : IsHeap w base g A ca ats gp cp pls gd cd dus
 li : Linked ats pls dus
 he : HeapP dus ats
theorem Kd.R_form0 {α : Type} {d : Kd α} {e base b : Nat} {ok : Nat → Prop} {w : World} {v : Value} {xs : List α} (h : d.R e w base ok v xs) (hb : v.ownBlock = some b) : ∃ g cap, v = .slice (some ⟨g, 0, none⟩) xs.length cap ∧ base ≤ g ∧ g < w.heap.size := by
 obtain ⟨inner, _, ho⟩ := Kd.R_own h
 rcases ho with ⟨rfl, _⟩ | ⟨g, cap, cur, hv, hg, hc, _⟩
 ·simp [Value.ownBlock] at hb
 ·exact ⟨g, cap, hv, hg, blk_lt hc⟩
set_option maxHeartbeats 8000000 in
set_option maxRecDepth 100000 in
theorem hnew_calls (n : Nat) (hn : n ≤ 1024) (w : World) : Calls Try.prog 79 #[.int .i64 n] w fun e w' => ∃ g gp cp gd cd pls, e = .returned (.pointer (some ⟨g, 0, none⟩)) ∧ HOK w' w.heap.size g none 0 [] gp cp pls gd cd (List.replicate n 0) ∧ pls.length = n ∧ (∀ k, k < n → pls.getD k 0 = -1) ∧ Below w.heap.size w w' := by
 have hu := Try.underlying166
 have HN := asd hn
 have m0 : mx (n : Int) 0 = n := by unfold mx; split <;> omega
 have m1 : mn (n : Int) 1024 = n := by unfold mn; split <;> omega
 clear hn
 go_enter Try.func79, Try.ntmps79
 go_wp2
 refine start_ (n := 8) (S := fun w' => True) (ds := [1, 3]) #[false, false, false, false, false, false, false, false] (by kernel_rfl) rfl rfl trivial (fun hHeld => ?_); refine with_tabW hnew2_tab hnew2_bits (fun HT_ HW_ => ?_)
 have HB := asd (below_drew1 (Below.refl w.heap.size w))
 clear hHeld
 generalize w.drew = w1 at HB ⊢
 refine pure_ (i := 0) (N := (some 8)) (v := ?_) (a' := ?_) #[true, false, false, false, false, false, false, false] rfl rfl (any_of HT_.out (by kernel_rfl)) (fun _ _ _ h => h) (Or.inl ⟨by rfl, ?_⟩) ?_ ?_
 rotate_left
 ·intro w'
  go_simp
  with_reducible rfl
 rotate_left
 ·simp only [Act.put, sB, i64_w, i32_w]
  rfl
 refine pure_ (i := 2) (N := (some 10)) (v := ?_) (a' := ?_) #[true, false, true, false, false, false, false, false] rfl rfl (any_of HT_.out (by kernel_rfl)) (fun _ _ _ h => h) (Or.inl ⟨by rfl, ?_⟩) ?_ ?_
 rotate_left
 ·intro w'
  go_simp
  with_reducible rfl
 rotate_left
 ·simp only [Act.put, sB, i64_w, i32_w]
  rfl
 refine twoL_ (i := 1) (j := 3) (Ni := (some 9)) (Nj := (some 11)) #[true, true, true, false, false, false, false, false] #[true, false, true, true, false, false, false, false] rfl rfl rfl rfl (two_of HT_.out (by kernel_rfl)) (by decide) (by decide) (fun K hK => ?_) (fun K hK => ?_)
 ·refine Kd.R_make_step (Kd.int .i64) (w0 := w) w.heap.size 3 (by rfl) (N := 9) rfl 23 _ _ rfl (n : Int) rfl rfl Try.underlying23 (.int .i64 0) 8 info3 rfl (by decide) (by omega) (0 : Int) (ok := fun k => w1.heap.size ≤ k) (okp := fun _ => False) rfl (fun _ hk => hk.elim) (Nat.le_refl _) (by omega) (by have := HN.out; simp; omega) HB.out (below_size HB.out) ?_
  intro vp w2 ho hb hg hnew
  rw [Int.toNat_natCast] at ho
  obtain ⟨bp, hbp, _⟩ := hnew
  obtain ⟨gp, cp, rfl, hbgp, hltp⟩ := Kd.R_form0 ho hbp
  rw [List.length_replicate] at ho ⊢
  have HOp := asd ho
  have HBp := asd hb
  have GBp := asd (And.intro (ho.1 gp rfl) hltp)
  have GRp := asd hg
  clear ho hb hg hbp hbgp hltp
  refine hK.out _ _ ?_
  clear hK K
  refine norm_ (a' := ?_) ?_ ?_
  rotate_left
  ·show Act.put _ (some 9) _ = _
   simp only [Act.put, sB, i64_w, i32_w]
   rfl
  refine last_ (i := 3) (N := (some 11)) #[true, true, true, true, false, false, false, false] rfl rfl (one_of HT_.out (by kernel_rfl)) (by decide) (fun K hK => ?_)
  refine Kd.R_make_step (Kd.int .i64) (w0 := w) w.heap.size 3 (by rfl) (N := 11) rfl 23 _ _ rfl (n : Int) rfl rfl Try.underlying23 (.int .i64 0) 8 info3 rfl (by decide) (by omega) (0 : Int) (ok := fun k => w2.heap.size ≤ k) (okp := fun _ => False) rfl (fun _ hk => hk.elim) (Nat.le_refl _) (by omega) (by have := HN.out; simp; omega) HBp.out (below_size HBp.out) ?_
  intro vd w3 ho hb hg hnew
  rw [Int.toNat_natCast] at ho
  obtain ⟨bd, hbd, _⟩ := hnew
  obtain ⟨gd, cd, rfl, hbgd, hltd⟩ := Kd.R_form0 ho hbd
  rw [List.length_replicate] at ho ⊢
  have HOd := asd ho
  have HBd := asd hb
  have GBd := asd (And.intro (ho.1 gd rfl) hltd)
  have GRd := asd hg
  clear ho hb hg hbd hbgd hltd
  refine hK.out _ _ ?_
  clear hK K
  refine norm_ (a' := ?_) ?_ ?_
  rotate_left
  ·show Act.put _ (some 11) _ = _
   simp only [Act.put, sB, i64_w, i32_w]
   rfl
  have HOpb := asd (Kd.R_step HOp.out (fun k _ hlt => GRd.out.block k hlt (by simp)))
  have GLd := asd (Nat.lt_of_lt_of_le GBp.out.2 GRd.out.size)
  refine pure_ (i := 4) (N := (some 12)) (v := ?_) (a' := ?_) #[true, true, true, true, true, false, false, false] rfl rfl (any_of HT_.out (by kernel_rfl)) (fun _ _ _ h => h) (Or.inl ⟨by rfl, ?_⟩) ?_ ?_
  rotate_left
  ·intro w'
   go_simp
   with_reducible rfl
  rotate_left
  ·simp only [Act.put, sB, i64_w, i32_w]
   rfl
  refine pure_ (i := 5) (N := (some 13)) (v := ?_) (a' := ?_) #[true, true, true, true, true, true, false, false] rfl rfl (any_of HT_.out (by kernel_rfl)) (fun _ _ _ h => h) (Or.inl ⟨by rfl, ?_⟩) ?_ ?_
  rotate_left
  ·intro w'
   go_simp
   with_reducible rfl
  rotate_left
  ·simp only [Act.put, sB, i64_w, i32_w]
   rfl
  refine one_ (i := 6) (N := (some 14)) #[true, true, true, true, true, true, true, false] rfl rfl (one_of HT_.out (by kernel_rfl)) (by decide) (fun K hK => ?_)
  refine value_ (w1 := ?_) (v := ?_) (by rfl) rfl ?_ ?_
  rotate_left 2
  ·go_simp
   constructor
   ·rfl
   ·rfl
  refine hK.out _ _ trivial (fun hHeld => ?_)
  clear hK K hHeld
  refine norm_ (a' := ?_) ?_ ?_
  rotate_left
  ·show Act.put _ (some 14) _ = _
   simp only [Act.put, sB, i64_w, i32_w]
   rfl
  refine pure_ (i := 7) (N := (some 3)) (v := ?_) (a' := ?_) #[true, true, true, true, true, true, true, true] rfl rfl (any_of HT_.out (by kernel_rfl)) (fun _ _ _ h => h) (Or.inl ⟨by rfl, ?_⟩) ?_ ?_
  rotate_left
  ·intro w'
   go_simp
   with_reducible rfl
  rotate_left
  ·simp only [Act.put, sB, i64_w, i32_w]
   rfl
  refine done_ (done_of HT_.out (by kernel_rfl)) ?_
  have HP := asd (Kd.R_tight2 rfl HOpb.out)
  have HD := asd (Kd.R_tight2 rfl HOd.out)
  have GN := asd (show w.heap.size ≤ gp ∧ w.heap.size ≤ gd ∧ gp ≠ gd ∧ gp < w3.heap.size ∧ gd < w3.heap.size by have := GBp.out; have := GBd.out; have := GLd.out; have := below_size HB.out; have := below_size HBp.out; omega)
  have HC3 := asd ((Chg.of_belowB HBd.out).alloc (.cells #[.slice none 0 0, .slice (some ⟨gp, 0, none⟩) n cp, .slice (some ⟨gd, 0, none⟩) n cd, .bool true] 168))
  have WB := asd HBd.out
  clear HOp HOd HOpb GBp GBd GRp GRd GLd HBp HBd HB
  have HH : Aside0 (IsHeap (w3.alloc (.cells #[.slice none 0 0, .slice (some ⟨gp, 0, none⟩) n cp, .slice (some ⟨gd, 0, none⟩) n cd, .bool true] 168)) w.heap.size w3.heap.size none 0 [] gp cp (List.replicate n 0) gd cd (List.replicate n 0)) := ⟨by
   have hn := GN.out
   refine ⟨?_, below_size ?_, by omega, by omega, hn.2.2.1, Kd.R_nil _ _ _ _ _, ?_, ?_⟩
   ·rw [List.length_replicate]; exact heap_alloc_new _ _
   ·exact (WB.out : Below w.heap.size w w3)
   ·rw [List.length_replicate]; exact Kd.R_mono (Kd.R_below HP.out (below_alloc (Below.refl _ _) _)) (fun k hk => by have := hk.1; simp [Value.ownBlock] at this; omega)
   ·rw [List.length_replicate]; exact Kd.R_mono (Kd.R_below HD.out (below_alloc (Below.refl _ _) _)) (fun k hk => by have := hk.1; simp [Value.ownBlock] at this; omega)⟩
  have GLO := asd GN.out.1
  clear HP HD GN WB
  generalize w3.heap.size = g at HH ⊢
  generalize w3.alloc (.cells #[.slice none 0 0, .slice (some ⟨gp, 0, none⟩) n cp, .slice (some ⟨gd, 0, none⟩) n cd, .bool true] 168) = w4 at HH HC3 ⊢
  have hx1 := (blk_cell HH.out.blk 1).trans (by rw [List.length_replicate]; try rfl)
  go_wp2
  clear hx1
  go_loopw [21] (fun v wr => ∃ (i : Nat) (zs : List Int), v = .int .i64 i ∧ Aside0 (i ≤ n ∧ zs.length = n ∧ ∀ k, k < i → zs.getD k 0 = -1) ∧ Aside0 (IsHeap wr w.heap.size g none 0 [] gp cp zs gd cd (List.replicate n 0)) ∧ Aside0 (Chg (fun k => w.heap.size ≤ k) w wr)) (fun v _ => n - (intOf v).toNat)
  case atStart => exact ⟨0, _, rfl, ⟨Nat.zero_le _, List.length_replicate, fun k hk => by omega⟩, HH, HC3⟩
  case round =>
   clear HH HC3
   obtain ⟨i, zs, rfl, HX, HH, HC⟩ := hrel
   have i99 : (i : Int) ≤ 1024 := by have := HX.out.1; have := HN.out; omega
   have hx1 := (blk_cell HH.out.blk 1).trans (by rw [HX.out.2.1]; try rfl)
   by_cases hi : i < n
   ·have d0 : decide ((i : Int) < (n : Int)) = true := decide_eq_true (by omega)
    have d1 : decide (i < n) = true := decide_eq_true hi
    have q0 : (0 ≤ (i : Int)) = True := eq_true (by omega)
    have q1 : ((i : Int) < (n : Int)) = True := eq_true (by omega)
    have hcc := HH.out.pl_ (i : Int) (by omega) (by have := HX.out.2.1; omega)
    have hff := Kd.R_elem_frozen HH.out.rp i (by have := HX.out.2.1; omega)
    rw [Int.toNat_natCast] at hcc
    have HII := asd hi
    clear hi
    go_wp2
    go_roundw
    case rel =>
     refine ⟨i + 1, zs.set i (-1), by go_num, ⟨by have := HII.out; omega, by rw [List.length_set]; exact HX.out.2.1, fun k hk => ?_⟩, ⟨?_⟩, ⟨HC.out.set_ (p := ⟨gp, i, none⟩) (.inl GLO.out) _⟩⟩
     ·rw [getD_set]
      by_cases h : i = k
      ·rw [if_pos ⟨h, by have := HX.out; have := HII.out; omega⟩]
      ·rw [if_neg (fun q => h q.1)]; exact HX.out.2.2 k (by omega)
     ·have h := HH.out.putP (i : Int) (-1)
      rwa [Int.toNat_natCast] at h
    case measure => have := HII.out; simp [intOf]; omega
   ·have d0 : decide ((i : Int) < (n : Int)) = false := decide_eq_false (by omega)
    have d1 : decide (i < n) = false := decide_eq_false hi
    have e : i = n := by have := HX.out.1; omega
    clear hi
    go_wp2
    go_ret
    exact ⟨g, gp, cp, gd, cd, zs, rfl, ⟨HH.out, ⟨by rw [List.length_replicate]; exact HX.out.2.1, fun j hj => absurd hj (by simp), fun j hj => absurd hj (by simp), fun id hid => .inl (HX.out.2.2 id (by have := HX.out.2.1; omega))⟩, fun j _ hj => absurd hj (by simp)⟩, HX.out.2.1, fun k hk => HX.out.2.2 k (by omega), HC.out.to_below (fun _ h => h) (Nat.le_refl _)⟩
 ·refine Kd.R_make_step (Kd.int .i64) (w0 := w) w.heap.size 3 (by rfl) (N := 11) rfl 23 _ _ rfl (n : Int) rfl rfl Try.underlying23 (.int .i64 0) 8 info3 rfl (by decide) (by omega) (0 : Int) (ok := fun k => w1.heap.size ≤ k) (okp := fun _ => False) rfl (fun _ hk => hk.elim) (Nat.le_refl _) (by omega) (by have := HN.out; simp; omega) HB.out (below_size HB.out) ?_
  intro vd w2 ho hb hg hnew
  rw [Int.toNat_natCast] at ho
  obtain ⟨bd, hbd, _⟩ := hnew
  obtain ⟨gd, cd, rfl, hbgd, hltd⟩ := Kd.R_form0 ho hbd
  rw [List.length_replicate] at ho ⊢
  have HOd := asd ho
  have HBd := asd hb
  have GBd := asd (And.intro (ho.1 gd rfl) hltd)
  have GRd := asd hg
  clear ho hb hg hbd hbgd hltd
  refine hK.out _ _ ?_
  clear hK K
  refine norm_ (a' := ?_) ?_ ?_
  rotate_left
  ·show Act.put _ (some 11) _ = _
   simp only [Act.put, sB, i64_w, i32_w]
   rfl
  refine last_ (i := 1) (N := (some 9)) #[true, true, true, true, false, false, false, false] rfl rfl (one_of HT_.out (by kernel_rfl)) (by decide) (fun K hK => ?_)
  refine Kd.R_make_step (Kd.int .i64) (w0 := w) w.heap.size 3 (by rfl) (N := 9) rfl 23 _ _ rfl (n : Int) rfl rfl Try.underlying23 (.int .i64 0) 8 info3 rfl (by decide) (by omega) (0 : Int) (ok := fun k => w2.heap.size ≤ k) (okp := fun _ => False) rfl (fun _ hk => hk.elim) (Nat.le_refl _) (by omega) (by have := HN.out; simp; omega) HBd.out (below_size HBd.out) ?_
  intro vp w3 ho hb hg hnew
  rw [Int.toNat_natCast] at ho
  obtain ⟨bp, hbp, _⟩ := hnew
  obtain ⟨gp, cp, rfl, hbgp, hltp⟩ := Kd.R_form0 ho hbp
  rw [List.length_replicate] at ho ⊢
  have HOp := asd ho
  have HBp := asd hb
  have GBp := asd (And.intro (ho.1 gp rfl) hltp)
  have GRp := asd hg
  clear ho hb hg hbp hbgp hltp
  refine hK.out _ _ ?_
  clear hK K
  refine norm_ (a' := ?_) ?_ ?_
  rotate_left
  ·show Act.put _ (some 9) _ = _
   simp only [Act.put, sB, i64_w, i32_w]
   rfl
  have HOdb := asd (Kd.R_step HOd.out (fun k _ hlt => GRp.out.block k hlt (by simp)))
  have GLp := asd (Nat.lt_of_lt_of_le GBd.out.2 GRp.out.size)
  refine pure_ (i := 4) (N := (some 12)) (v := ?_) (a' := ?_) #[true, true, true, true, true, false, false, false] rfl rfl (any_of HT_.out (by kernel_rfl)) (fun _ _ _ h => h) (Or.inl ⟨by rfl, ?_⟩) ?_ ?_
  rotate_left
  ·intro w'
   go_simp
   with_reducible rfl
  rotate_left
  ·simp only [Act.put, sB, i64_w, i32_w]
   rfl
  refine pure_ (i := 5) (N := (some 13)) (v := ?_) (a' := ?_) #[true, true, true, true, true, true, false, false] rfl rfl (any_of HT_.out (by kernel_rfl)) (fun _ _ _ h => h) (Or.inl ⟨by rfl, ?_⟩) ?_ ?_
  rotate_left
  ·intro w'
   go_simp
   with_reducible rfl
  rotate_left
  ·simp only [Act.put, sB, i64_w, i32_w]
   rfl
  refine one_ (i := 6) (N := (some 14)) #[true, true, true, true, true, true, true, false] rfl rfl (one_of HT_.out (by kernel_rfl)) (by decide) (fun K hK => ?_)
  refine value_ (w1 := ?_) (v := ?_) (by rfl) rfl ?_ ?_
  rotate_left 2
  ·go_simp
   constructor
   ·rfl
   ·rfl
  refine hK.out _ _ trivial (fun hHeld => ?_)
  clear hK K hHeld
  refine norm_ (a' := ?_) ?_ ?_
  rotate_left
  ·show Act.put _ (some 14) _ = _
   simp only [Act.put, sB, i64_w, i32_w]
   rfl
  refine pure_ (i := 7) (N := (some 3)) (v := ?_) (a' := ?_) #[true, true, true, true, true, true, true, true] rfl rfl (any_of HT_.out (by kernel_rfl)) (fun _ _ _ h => h) (Or.inl ⟨by rfl, ?_⟩) ?_ ?_
  rotate_left
  ·intro w'
   go_simp
   with_reducible rfl
  rotate_left
  ·simp only [Act.put, sB, i64_w, i32_w]
   rfl
  refine done_ (done_of HT_.out (by kernel_rfl)) ?_
  have HP := asd (Kd.R_tight2 rfl HOp.out)
  have HD := asd (Kd.R_tight2 rfl HOdb.out)
  have GN := asd (show w.heap.size ≤ gp ∧ w.heap.size ≤ gd ∧ gp ≠ gd ∧ gp < w3.heap.size ∧ gd < w3.heap.size by have := GBp.out; have := GBd.out; have := GLp.out; have := below_size HB.out; have := below_size HBd.out; omega)
  have HC3 := asd ((Chg.of_belowB HBp.out).alloc (.cells #[.slice none 0 0, .slice (some ⟨gp, 0, none⟩) n cp, .slice (some ⟨gd, 0, none⟩) n cd, .bool true] 168))
  have WB := asd HBp.out
  clear HOp HOd HOdb GBp GBd GRp GRd GLp HBp HBd HB
  have HH : Aside0 (IsHeap (w3.alloc (.cells #[.slice none 0 0, .slice (some ⟨gp, 0, none⟩) n cp, .slice (some ⟨gd, 0, none⟩) n cd, .bool true] 168)) w.heap.size w3.heap.size none 0 [] gp cp (List.replicate n 0) gd cd (List.replicate n 0)) := ⟨by
   have hn := GN.out
   refine ⟨?_, below_size ?_, by omega, by omega, hn.2.2.1, Kd.R_nil _ _ _ _ _, ?_, ?_⟩
   ·rw [List.length_replicate]; exact heap_alloc_new _ _
   ·exact (WB.out : Below w.heap.size w w3)
   ·rw [List.length_replicate]; exact Kd.R_mono (Kd.R_below HP.out (below_alloc (Below.refl _ _) _)) (fun k hk => by have := hk.1; simp [Value.ownBlock] at this; omega)
   ·rw [List.length_replicate]; exact Kd.R_mono (Kd.R_below HD.out (below_alloc (Below.refl _ _) _)) (fun k hk => by have := hk.1; simp [Value.ownBlock] at this; omega)⟩
  have GLO := asd GN.out.1
  clear HP HD GN WB
  generalize w3.heap.size = g at HH ⊢
  generalize w3.alloc (.cells #[.slice none 0 0, .slice (some ⟨gp, 0, none⟩) n cp, .slice (some ⟨gd, 0, none⟩) n cd, .bool true] 168) = w4 at HH HC3 ⊢
  have hx1 := (blk_cell HH.out.blk 1).trans (by rw [List.length_replicate]; try rfl)
  go_wp2
  clear hx1
  go_loopw [21] (fun v wr => ∃ (i : Nat) (zs : List Int), v = .int .i64 i ∧ Aside0 (i ≤ n ∧ zs.length = n ∧ ∀ k, k < i → zs.getD k 0 = -1) ∧ Aside0 (IsHeap wr w.heap.size g none 0 [] gp cp zs gd cd (List.replicate n 0)) ∧ Aside0 (Chg (fun k => w.heap.size ≤ k) w wr)) (fun v _ => n - (intOf v).toNat)
  case atStart => exact ⟨0, _, rfl, ⟨Nat.zero_le _, List.length_replicate, fun k hk => by omega⟩, HH, HC3⟩
  case round =>
   clear HH HC3
   obtain ⟨i, zs, rfl, HX, HH, HC⟩ := hrel
   have i99 : (i : Int) ≤ 1024 := by have := HX.out.1; have := HN.out; omega
   have hx1 := (blk_cell HH.out.blk 1).trans (by rw [HX.out.2.1]; try rfl)
   by_cases hi : i < n
   ·have d0 : decide ((i : Int) < (n : Int)) = true := decide_eq_true (by omega)
    have d1 : decide (i < n) = true := decide_eq_true hi
    have q0 : (0 ≤ (i : Int)) = True := eq_true (by omega)
    have q1 : ((i : Int) < (n : Int)) = True := eq_true (by omega)
    have hcc := HH.out.pl_ (i : Int) (by omega) (by have := HX.out.2.1; omega)
    have hff := Kd.R_elem_frozen HH.out.rp i (by have := HX.out.2.1; omega)
    rw [Int.toNat_natCast] at hcc
    have HII := asd hi
    clear hi
    go_wp2
    go_roundw
    case rel =>
     refine ⟨i + 1, zs.set i (-1), by go_num, ⟨by have := HII.out; omega, by rw [List.length_set]; exact HX.out.2.1, fun k hk => ?_⟩, ⟨?_⟩, ⟨HC.out.set_ (p := ⟨gp, i, none⟩) (.inl GLO.out) _⟩⟩
     ·rw [getD_set]
      by_cases h : i = k
      ·rw [if_pos ⟨h, by have := HX.out; have := HII.out; omega⟩]
      ·rw [if_neg (fun q => h q.1)]; exact HX.out.2.2 k (by omega)
     ·have h := HH.out.putP (i : Int) (-1)
      rwa [Int.toNat_natCast] at h
    case measure => have := HII.out; simp [intOf]; omega
   ·have d0 : decide ((i : Int) < (n : Int)) = false := decide_eq_false (by omega)
    have d1 : decide (i < n) = false := decide_eq_false hi
    have e : i = n := by have := HX.out.1; omega
    clear hi
    go_wp2
    go_ret
    exact ⟨g, gp, cp, gd, cd, zs, rfl, ⟨HH.out, ⟨by rw [List.length_replicate]; exact HX.out.2.1, fun j hj => absurd hj (by simp), fun j hj => absurd hj (by simp), fun id hid => .inl (HX.out.2.2 id (by have := HX.out.2.1; omega))⟩, fun j _ hj => absurd hj (by simp)⟩, HX.out.2.1, fun k hk => HX.out.2.2 k (by omega), HC.out.to_below (fun _ h => h) (Nat.le_refl _)⟩
def inB (pls : List Int) (id : Int) : Bool := decide (0 ≤ id ∧ id < pls.length ∧ pls.getD id.toNat 0 ≠ -1)
def inC (pls : List Int) (id : Int) : Int := if 0 ≤ id ∧ id < pls.length then 0 else 1
section
variable {w : World} {base g ca gp cp gd cd : Nat} {A : Option Addr} {ats pls dus : List Int}
set_option maxHeartbeats 4000000 in
set_option maxRecDepth 100000 in
theorem none_calls (h : IsHeap w base g A ca ats gp cp pls gd cd dus) : Calls Try.prog 146 #[.pointer (some ⟨g, 0, none⟩)] w fun e w' => e = .returned (.bool false) ∧ w = w' := by
 have hx3 := (blk_cell h.blk 3).trans rfl
 clear h
 go_enter Try.func146, Try.ntmps146
 go_wp2
 go_ret
 simp
set_option maxHeartbeats 4000000 in
set_option maxRecDepth 100000 in
theorem in_calls (h : IsHeap w base g A ca ats gp cp pls gd cd dus) (id : Int) : Calls Try.prog 136 #[.pointer (some ⟨g, 0, none⟩), .int .i64 id] w fun e w' => e = .returned (.tuple #[.bool (inB pls id), .int .i64 (inC pls id)]) ∧ w = w' := by
 have NC := asd (none_calls h)
 have hx1 := (blk_cell h.blk 1).trans rfl
 by_cases h0 : id < 0
 ·have e1 : inB pls id = false := decide_eq_false (fun q => by omega)
  have e2 : inC pls id = 1 := if_neg (fun q => by omega)
  rw [e1, e2]
  have d0 : decide (id < 0) = true := decide_eq_true h0
  clear h e1 e2 h0 hx1
  go_enter Try.func136, Try.ntmps136
  go_wp2_with (first | (go_at_call 146; refine NC.out.mono ?_; rintro e w1 ⟨rfl, rfl⟩))
  go_ret2
  simp
 ·have d0 : decide (id < 0) = false := decide_eq_false h0
  by_cases h1 : (pls.length : Int) ≤ id
  ·have e1 : inB pls id = false := decide_eq_false (fun q => by omega)
   have e2 : inC pls id = 1 := if_neg (fun q => by omega)
   rw [e1, e2]
   have d1 : decide ((pls.length : Int) ≤ id) = true := decide_eq_true h1
   clear h e1 e2 h0 h1
   go_enter Try.func136, Try.ntmps136
   go_wp2_with (first | (go_at_call 146; refine NC.out.mono ?_; rintro e w1 ⟨rfl, rfl⟩))
   go_ret2
   simp
  ·have d1 : decide ((pls.length : Int) ≤ id) = false := decide_eq_false h1
   have hcc := h.pl_ id (by omega) (by omega)
   have e1 : inB pls id = decide (¬ pls.getD id.toNat 0 = -1) := decide_eq_decide.2 ⟨fun q => q.2.2, fun q => ⟨by omega, by omega, q⟩⟩
   have e2 : inC pls id = 0 := if_pos ⟨by omega, by omega⟩
   have p0 : (0 ≤ id) = True := eq_true (by omega)
   have p1 : (id < (pls.length : Int)) = True := eq_true (by omega)
   rw [e1, e2]
   generalize pls.getD id.toNat 0 = x at hcc ⊢
   clear h e1 e2 h0 h1
   by_cases hx : x = -1
   ·have d2 : decide (x = -1) = true := decide_eq_true hx
    have d3 : (x == -1) = true := by simpa using hx
    go_enter Try.func136, Try.ntmps136
    go_wp2_with (first | (go_at_call 146; refine NC.out.mono ?_; rintro e w1 ⟨rfl, rfl⟩))
    go_ret2
    simp [hx]
   ·have d2 : decide (x = -1) = false := decide_eq_false hx
    have d3 : (x == -1) = false := by simpa using hx
    go_enter Try.func136, Try.ntmps136
    go_wp2_with (first | (go_at_call 146; refine NC.out.mono ?_; rintro e w1 ⟨rfl, rfl⟩))
    go_ret2
    simp [hx]
end
end Go.Proofs.Ytalimpniimgheaa.Fn
namespace Go.Proofs.Ytalimpniimgheaa.Fn
open Go.RowKit Go.Proofs.YtalimpniimgheaaW.PrintWords Go.Proofs.YtalimpniimgheaaW.PrintLast Go.Proofs.YtalimpniimgheaaW.PrintMore
set_option linter.unusedVariables false
set_option linter.unusedSimpArgs false
def hput8T : Bool × List (List Nat × List Nat) := (true, [([], []), ([0], [0]), ([1], [1]), ([], []), ([3], [3]), ([4], [4]), ([5], [5]), ([6], [6]), ([7], [7]), ([8], [8]), ([], []), ([2, 9, 10], [2, 9, 10])])
def hput8B : List Nat := [0, 1, 3, 0, 8, 24, 56, 120, 248, 504, 0, 2047]
theorem hput8_tab : rtab .any (opsOf Try.f112 8) = hput8T := by kernel_rfl
theorem hput8_bits : waitsOk hput8T.2 hput8B = true := by kernel_rfl
def hput9T : Bool × List (List Nat × List Nat) := (true, [([], []), ([0], [0]), ([1], [1]), ([], []), ([3], [3]), ([4], [4]), ([5], [5]), ([6], [6]), ([7], [7]), ([8], [8]), ([2, 9], [2, 9])])
def hput9B : List Nat := [0, 1, 3, 0, 8, 24, 56, 120, 248, 504, 1023]
theorem hput9_tab : rtab .any (opsOf Try.f112 9) = hput9T := by kernel_rfl
theorem hput9_bits : waitsOk hput9T.2 hput9B = true := by kernel_rfl
theorem own_some {A : Option Addr} {n c k : Nat} (h : (Value.slice A n c).ownBlock = some k) : ∃ a, A = some a ∧ k = a.block := by
 cases A with
 | none => simp [Value.ownBlock] at h
 | some a => exact ⟨a, rfl, by simpa [Value.ownBlock] using h.symm⟩
theorem lessB_far {d : List Int} {a b : Int} {i : Nat} {x : Int} (ha : a.toNat ≠ i) (hb : b.toNat ≠ i) : lessB (d.set i x) a b = lessB d a b := by
 unfold lessB
 rw [getD_set, getD_set, if_neg (fun q => ha q.1.symm), if_neg (fun q => hb q.1.symm)]
theorem getD_app {α : Type} (l : List α) (x z : α) (j : Nat) (h : j < l.length) : (l ++ [x]).getD j z = l.getD j z := by
 simp [List.getD_eq_getElem?_getD, List.getElem?_append_left h]
theorem getD_app_last {α : Type} (l : List α) (x z : α) : (l ++ [x]).getD l.length z = x := by
 simp [List.getD_eq_getElem?_getD]
section
variable {w w1 : World} {base g ca gp cp gd cd : Nat} {A : Option Addr} {ats pls dus : List Int}
theorem Linked.notin (h : Linked ats pls dus) {id : Int} (h0 : 0 ≤ id) (hn : pls.getD id.toNat 0 = -1) (i : Nat) (hi : i < ats.length) : (ats.getD i 0).toNat ≠ id.toNat := fun e => by
 have h1 := h.fwd i hi
 rw [e, hn] at h1
 omega
theorem Linked.set_due (h : Linked ats pls dus) (i : Nat) (x : Int) : Linked ats pls (dus.set i x) :=
 ⟨by rw [List.length_set]; exact h.len, fun j hj => by rw [List.length_set]; exact h.rng j hj, h.fwd, h.bwd⟩
theorem Linked.push (h : Linked ats pls dus) {id : Int} (h0 : 0 ≤ id) (h1 : id < pls.length) (hn : pls.getD id.toNat 0 = -1) : Linked (ats ++ [id]) (pls.set id.toNat (ats.length : Int)) dus := by
 have hl := h.len
 refine ⟨by rw [List.length_set]; exact h.len, ?_, ?_, ?_⟩
 ·intro i hi
  rw [List.length_append, List.length_singleton] at hi
  by_cases he : i = ats.length
  ·subst he; rw [getD_app_last]; omega
  ·rw [getD_app _ _ _ _ (by omega)]; exact h.rng i (by omega)
 ·intro i hi
  rw [List.length_append, List.length_singleton] at hi
  by_cases he : i = ats.length
  ·subst he
   rw [getD_app_last, getD_set, if_pos ⟨rfl, by omega⟩]
  ·rw [getD_app _ _ _ _ (by omega), getD_set, if_neg (fun q => h.notin h0 hn i (by omega) q.1.symm)]
   exact h.fwd i (by omega)
 ·intro k hk
  rw [List.length_set] at hk
  rw [getD_set]
  by_cases he : id.toNat = k
  ·rw [if_pos ⟨he, by omega⟩]
   exact .inr ⟨ats.length, by simp, rfl, by rw [getD_app_last]; omega⟩
  ·rw [if_neg (fun q => he q.1)]
   rcases h.bwd k hk with hb | ⟨j, hj, hp, ha⟩
   ·exact .inl hb
   ·exact .inr ⟨j, by rw [List.length_append]; omega, hp, by rw [getD_app _ _ _ _ hj]; exact ha⟩
theorem Linked.push_up (h : Linked ats pls dus) (P : HeapP dus ats) {id x : Int} (h0 : 0 ≤ id) (hn : pls.getD id.toNat 0 = -1) : UpInv false (dus.set id.toNat x) (ats ++ [id]) ats.length := by
 refine ⟨fun j hj0 hj hne _ => ?_, fun _ j hj0 hj hp => ?_⟩
 ·rw [List.length_append, List.length_singleton] at hj
  have hp := parN_lt hj0
  rw [getD_app _ _ _ _ (by omega), getD_app _ _ _ _ (by omega)]
  unfold leD
  rw [lessB_far (h.notin h0 hn _ (by omega)) (h.notin h0 hn _ (by omega))]
  exact P j hj0 (by omega)
 ·rw [List.length_append, List.length_singleton] at hj
  have := parN_lt hj0
  omega
theorem down_last {d a : List Int} {i : Nat} (h : DownInv d a i) (hi : a.length ≤ i + 1) : HeapP d a := fun j h0 hj => h.1 j h0 hj (by have := parN_lt h0; omega)
theorem IsHeap.grow (h : IsHeap w base g A ca ats gp cp pls gd cd dus) {x : Int} {A2 : Option Addr} {c2 : Nat} (ho : (Kd.int .i64).R 3 w1 base (fun k => k ≠ g ∧ k ≠ gp ∧ k ≠ gd) (.slice A2 (ats ++ [x]).length c2) (ats ++ [x])) (hg : w.grownBy w1 (Value.slice A ats.length ca).ownBlock) :
  IsHeap (w1.setCell ⟨g, 0, none⟩ (.slice A2 (ats ++ [x]).length c2)) base g A2 c2 (ats ++ [x]) gp cp pls gd cd dus := by
 have hne : ∀ k, (k = g ∨ k = gp ∨ k = gd) → ¬ (Value.slice A ats.length ca).ownBlock = some k := fun k hk e => by
  have := h.ra.1 k e
  omega
 have hc : Chg (fun k => (Value.slice A ats.length ca).ownBlock = some k) w w1 := (Chg.refl _ _).grown hg (fun k hk => .inl hk)
 have n1 := h.n1
 have n2 := h.n2
 refine ⟨?_, h.lo, h.n1, h.n2, h.n3, ?_, ?_, ?_⟩
 ·exact blk_put (blk_chg h.blk hc (hne _ (.inl rfl))) 0 _ rfl
 ·exact Kd.R_far ho (p := ⟨g, 0, none⟩) (fun k hk e => hk.1 e) _
 ·exact Kd.R_far (R_chg h.rp hc (fun k hk => by rw [hk]; exact hne _ (.inr (.inl rfl)))) (p := ⟨g, 0, none⟩) (fun k hk e => h.n1 (by rw [← hk]; exact e)) _
 ·exact Kd.R_far (R_chg h.rd hc (fun k hk => by rw [hk]; exact hne _ (.inr (.inr rfl)))) (p := ⟨g, 0, none⟩) (fun k hk e => h.n2 (by rw [← hk]; exact e)) _
theorem IsHeap.grow_blk (h : IsHeap w base g A ca ats gp cp pls gd cd dus) (hg : w.grownBy w1 (Value.slice A ats.length ca).ownBlock) : w1.heap[g]? = some (.cells #[.slice A ats.length ca, .slice (some ⟨gp, 0, none⟩) pls.length cp, .slice (some ⟨gd, 0, none⟩) dus.length cd, .bool true] 168 (0, 0)) :=
 blk_chg h.blk ((Chg.refl (fun k => (Value.slice A ats.length ca).ownBlock = some k) _).grown hg (fun k hk => .inl hk)) (fun e => (h.ra.1 g e).1 rfl)
def NewA (s : Nat) (A A' : Option Addr) : Prop := ∀ a', A' = some a' → (∃ a, A = some a ∧ a.block = a'.block) ∨ s ≤ a'.block
theorem NewA.refl (s : Nat) (A : Option Addr) : NewA s A A := fun a' h => .inl ⟨a', h, rfl⟩
theorem NewA.of {s n m c c' : Nat} {A' : Option Addr} (h : (Value.slice A' m c').ownBlock = (Value.slice A n c).ownBlock ∨ ∃ b, (Value.slice A' m c').ownBlock = some b ∧ s ≤ b) : NewA s A A' := by
 rintro a' rfl
 rcases h with h | ⟨b, hb, hs⟩
 ·cases A with
  | none => simp [Value.ownBlock] at h
  | some a => exact .inl ⟨a, rfl, by simpa [Value.ownBlock] using h.symm⟩
 ·simp [Value.ownBlock] at hb
  exact .inr (by omega)
theorem heapS_new {A' : Option Addr} {s k : Nat} (h : NewA s A A') (hk : heapS g A' gp gd k) : heapS g A gp gd k ∨ s ≤ k := by
 rcases hk with hk | ⟨a, ha, hk⟩ | hk | hk
 ·exact .inl (.inl hk)
 ·rcases h a ha with ⟨a', ha', he⟩ | hs
  ·exact .inl (.inr (.inl ⟨a', ha', by omega⟩))
  ·exact .inr (by omega)
 ·exact .inl (.inr (.inr (.inl hk)))
 ·exact .inl (.inr (.inr (.inr hk)))
set_option maxHeartbeats 8000000 in
set_option maxRecDepth 100000 in
theorem put_calls (h : HOK w base g A ca ats gp cp pls gd cd dus) (id due : Int) (h0 : 0 ≤ id) (h1 : id < pls.length) (hn : pls.getD id.toNat 0 = -1) (hl : ats.length < 5000) :
  Calls Try.prog 112 #[.pointer (some ⟨g, 0, none⟩), .int .i64 id, .int .i64 due] w fun e w' => e = .returned (.int .i64 0) ∧ (∃ A' ca' ats' pls', HOK w' base g A' ca' ats' gp cp pls' gd cd (dus.set id.toNat due) ∧ SameIn (pls.set id.toNat 0) pls' ∧ pls'.length = pls.length ∧ ats'.length = ats.length + 1 ∧ NewA w.heap.size A A') ∧ Chg (heapS g A gp gd) w w' := by
 have hlen := h.li.len
 have hi1 : inB pls id = false := decide_eq_false (fun q => q.2.2 hn)
 have hi2 : inC pls id = 0 := if_pos ⟨h0, h1⟩
 have NC := asd (in_calls h.is id)
 rw [hi1, hi2] at NC
 have hx2 := (blk_cell h.is.blk 2).trans rfl
 have hx0 := (blk_cell h.is.blk 0).trans rfl
 have hcc := h.is.due_ id h0 (by omega)
 have hff := Kd.R_elem_frozen h.is.rd id.toNat (by omega)
 have hf0 := blk_frozen h.is.blk 0
 have p0 : (0 ≤ id) = True := eq_true h0
 have p1 : (id < (dus.length : Int)) = True := eq_true (by omega)
 have GD := asd h.is.n2
 have RI := asd (And.intro h0 h1)
 have HD := asd (h.is.putD id due)
 have HC := asd ((Chg.refl (heapS g A gp gd) w).set_ (p := ⟨gd, id.toNat, none⟩) (.inl (.inr (.inr (.inr rfl)))) (.int .i64 due))
 have HL := asd hl
 have LP := asd ((h.li.push h0 h1 hn).set_due id.toNat due)
 have UI := asd (h.li.push_up h.he (x := due) h0 hn)
 have SI : Aside0 (SameIn (pls.set id.toNat 0) (pls.set id.toNat (ats.length : Int))) := ⟨fun k hk => by
  rw [getD_set, getD_set]
  by_cases q : id.toNat = k ∧ id.toNat < pls.length
  ·rw [if_pos q, if_pos q]; omega
  ·rw [if_neg q, if_neg q]⟩
 have SZ := asd (Nat.le_refl w.heap.size)
 clear h hl hi1 hi2 hlen h0 h1 hn
 go_enter Try.func112, Try.ntmps112
 have hxb := (blk_cell HD.out.blk 0).trans rfl
 go_wp2_with (first | (go_at_call 136; refine NC.out.mono ?_; rintro e w1 ⟨rfl, rfl⟩) | (at_builtin; refine Kd.R_append (Kd.int .i64) (w0 := w.setCell ⟨gd, id.toNat, none⟩ (.int .i64 due)) base rfl (.tmp 34) (.tmp 36) 23 3 (.int .i64 0) 8 rfl Try.underlying23 info3 rfl (by decide) (by omega) (.slice A ats.length ca) ats id [.int .i64 id] (fun k => k ≠ g ∧ k ≠ gp ∧ k ≠ gd) (fun _ => False) rfl (by first | rfl | (simp [Act.eval, World.setCell]; done)) rfl (fun _ hk => hk.elim) (fun k hk => by have h1 := blk_lt HD.out.blk; have h2 := Kd.R_lt HD.out.rp gp rfl; have h3 := Kd.R_lt HD.out.rd gd rfl; omega) HD.out.ra (Below.refl _ _) (by have h1 := blk_lt HD.out.blk; have := HD.out.lo; omega) (by have := HL.out; omega) ?_; intro v1 w1 ho hb hg hat; obtain ⟨A2, c2, rfl⟩ := Kd.R_slice ho; have H8 := asd (HD.out.grow ho hg); have hxw := (blk_cell (HD.out.grow_blk hg) 0).trans rfl; have hfw := blk_frozen (HD.out.grow_blk hg) 0; have NA := asd (NewA.of hat); have HC8 := asd ((HC.out.grown hg (fun k hk => .inl (.inr (.inl (own_some hk))))).set_ (p := ⟨g, 0, none⟩) (.inl (.inl rfl)) (.slice A2 (ats ++ [id]).length c2)); have NA0 : Aside0 (NewA w.heap.size A A2) := ⟨fun a' ha' => (NA.out a' ha').imp (fun q => q) (fun h => Nat.le_trans HC.out.size h)⟩; clear NA ho hb hg hat HD HC hcc hff hx0 hx2 hf0 hxb; generalize hL : (ats ++ [id]).length = L at H8 HC8 ⊢; have HLE := asd hL; clear hL))
 generalize w1.setCell ⟨g, 0, none⟩ (.slice A2 L c2) = w8 at H8 HC8 ⊢
 have NA := asd NA0.out
 obtain ⟨ga, rfl⟩ := H8.out.som (by simp)
 obtain ⟨n, hnn⟩ : ∃ n, n = ats.length := ⟨_, rfl⟩
 have LE : Aside0 ((ats ++ [id]).length = n + 1) := ⟨by rw [hnn]; simp⟩
 have SE : Aside0 ((ats ++ [id]).set n id = ats ++ [id]) := ⟨by rw [hnn]; simp⟩
 have HNN := asd hnn
 have WN : Aside0 (Go.RowKit.wrap64 (n : Int) = n) := ⟨by have := HL.out; unfold Go.RowKit.wrap64; omega⟩
 rw [← hnn] at LP UI SI
 have hx0 : w8.cell? ⟨g, 0, none⟩ = some (.slice (some ⟨ga, 0, none⟩) (n + 1) c2) := (blk_cell H8.out.blk 0).trans (by rw [LE.out]; rfl)
 clear HLE hxw hfw hnn NA0
 refine start_ (n := 12) (S := fun w' => w'.cell? ⟨g, 0, none⟩ = some (.slice (some ⟨ga, 0, none⟩) (n + 1) c2)) (ds := [11]) #[false, false, false, false, false, false, false, false, false, false, false, false] (by kernel_rfl) rfl rfl hx0 (fun hHeld => ?_); refine with_tabW hput8_tab hput8_bits (fun HT_ HW_ => ?_)
 have HSd := asd (H8.out.below (below_drew1 (Below.refl _ _)))
 have HCd := asd HC8.out.drew
 clear hx0 H8 HC8
 generalize (World.drew _) = wd at HSd HCd hHeld ⊢
 refine pure_ (i := 0) (N := (some 41)) (v := ?_) (a' := ?_) #[true, false, false, false, false, false, false, false, false, false, false, false] rfl rfl (any_of HT_.out (by kernel_rfl)) (fun _ _ _ h => h) (Or.inl ⟨by rfl, ?_⟩) ?_ ?_
 rotate_left
 ·intro w'
  go_simp
  with_reducible rfl
 rotate_left
 ·simp only [Act.put, sB, i64_w, i32_w]
  rfl
 refine pure_ (i := 1) (N := (some 42)) (v := ?_) (a' := ?_) #[true, true, false, false, false, false, false, false, false, false, false, false] rfl rfl (any_of HT_.out (by kernel_rfl)) (fun _ _ _ h => h) (Or.inl ⟨by rfl, ?_⟩) ?_ ?_
 rotate_left
 ·intro w'
  go_simp
  with_reducible rfl
 rotate_left
 ·simp only [Act.put, sB, i64_w, i32_w]
  rfl
 refine pure_ (i := 2) (N := (some 43)) (v := ?_) (a' := ?_) #[true, true, true, false, false, false, false, false, false, false, false, false] rfl rfl (any_of HT_.out (by kernel_rfl)) (fun _ _ _ h => h) (Or.inl ⟨by rfl, ?_⟩) ?_ ?_
 rotate_left
 ·intro w'
  go_simp
  with_reducible rfl
 rotate_left
 ·simp only [Act.put, sB, i64_w, i32_w]
  rfl
 refine pure_ (i := 3) (N := (some 44)) (v := ?_) (a' := ?_) #[true, true, true, true, false, false, false, false, false, false, false, false] rfl rfl (any_of HT_.out (by kernel_rfl)) (fun _ _ _ h => h) (Or.inl ⟨by rfl, ?_⟩) ?_ ?_
 rotate_left
 ·intro w'
  go_simp
  with_reducible rfl
 rotate_left
 ·simp only [Act.put, sB, i64_w, i32_w]
  rfl
 refine pure_ (i := 4) (N := (some 45)) (v := ?_) (a' := ?_) #[true, true, true, true, true, false, false, false, false, false, false, false] rfl rfl (any_of HT_.out (by kernel_rfl)) (fun _ _ _ h => h) (Or.inl ⟨by rfl, ?_⟩) ?_ ?_
 rotate_left
 ·intro w'
  go_simp
  with_reducible rfl
 rotate_left
 ·simp only [Act.put, sB, i64_w, i32_w]
  rfl
 refine pure_ (i := 5) (N := (some 46)) (v := ?_) (a' := ?_) #[true, true, true, true, true, true, false, false, false, false, false, false] rfl rfl (any_of HT_.out (by kernel_rfl)) (fun _ _ _ h => h) (Or.inl ⟨by rfl, ?_⟩) ?_ ?_
 rotate_left
 ·intro w'
  go_simp
  with_reducible rfl
 rotate_left
 ·simp only [Act.put, sB, i64_w, i32_w]
  rfl
 refine pure_ (i := 6) (N := (some 47)) (v := ?_) (a' := ?_) #[true, true, true, true, true, true, true, false, false, false, false, false] rfl rfl (any_of HT_.out (by kernel_rfl)) (fun _ _ _ h => h) (Or.inl ⟨by rfl, ?_⟩) ?_ ?_
 rotate_left
 ·intro w'
  go_simp
  with_reducible rfl
 rotate_left
 ·simp only [Act.put, sB, i64_w, i32_w]
  rfl
 refine take_ (i := 7) (N := (some 48)) (v := ?_) (a' := ?_) #[true, true, true, true, true, true, true, true, false, false, false, false] rfl rfl (take_ofW HT_.out HW_.out (by kernel_rfl)) (fun _ _ _ h => h) (Or.inl ⟨by rfl, ?_⟩) hHeld ?_ ?_
 rotate_left
 ·rintro w' s0
  go_simp
  with_reducible rfl
 rotate_left
 ·simp only [Act.put, sB, i64_w, i32_w]
  rfl
 refine pure_ (i := 8) (N := (some 49)) (v := ?_) (a' := ?_) #[true, true, true, true, true, true, true, true, true, false, false, false] rfl rfl (any_of HT_.out (by kernel_rfl)) (fun _ _ _ h => h) (Or.inl ⟨by rfl, ?_⟩) ?_ ?_
 rotate_left
 ·intro w'
  go_simp
  with_reducible rfl
 rotate_left
 ·simp only [Act.put, sB, i64_w, i32_w]
  rfl
 refine pure_ (i := 9) (N := (some 50)) (v := ?_) (a' := ?_) #[true, true, true, true, true, true, true, true, true, true, false, false] rfl rfl (any_of HT_.out (by kernel_rfl)) (fun _ _ _ h => h) (Or.inl ⟨by rfl, ?_⟩) ?_ ?_
 rotate_left
 ·intro w'
  go_simp
  with_reducible rfl
 rotate_left
 ·simp only [Act.put, sB, i64_w, i32_w]
  rfl
 rw [WN.out]
 refine pure_ (i := 10) (N := (some 51)) (v := ?_) (a' := ?_) #[true, true, true, true, true, true, true, true, true, true, true, false] rfl rfl (any_of HT_.out (by kernel_rfl)) (fun _ _ _ h => h) (Or.inl ⟨by rfl, ?_⟩) ?_ ?_
 rotate_left
 ·intro w'
  go_simp
  with_reducible rfl
 rotate_left
 ·simp only [Act.put, sB, i64_w, i32_w]
  rfl
 refine last_ (i := 11) (N := (some 52)) #[true, true, true, true, true, true, true, true, true, true, true, true] rfl rfl (one_of HT_.out (by kernel_rfl)) (by decide) (fun K hK => ?_)
 refine goes_ Try.func137 (by kernel_rfl) rfl #[.pointer (some ⟨g, 0, none⟩), .int .i64 (n : Int), .int .i64 id] (by rfl) rfl rfl (by simp [Act.eval]) ?_
 refine (set_calls HSd.out n id (by have := LE.out; omega) RI.out).mono ?_
 rintro e w9 ⟨rfl, h9, hc9⟩
 have H9 := asd h9
 have HC9 := asd (HCd.out.then_ hc9 (fun k hk => heapS_new NA.out hk))
 clear h9 hc9 HSd HCd
 rw [SE.out] at H9
 refine ⟨_, rfl, ?_⟩
 refine hK.out _ _ ?_
 clear hK K
 refine norm_ (a' := ?_) ?_ ?_
 rotate_left
 ·show Act.put _ (some 52) _ = _
  simp only [Act.put, sB, i64_w, i32_w]
  rfl
 refine done_ (done_of HT_.out (by kernel_rfl)) ?_
 try go_wp2
 have hx0 : w9.cell? ⟨g, 0, none⟩ = some (.slice (some ⟨ga, 0, none⟩) (n + 1) c2) := (blk_cell H9.out.blk 0).trans (by rw [LE.out]; rfl)
 refine start_ (n := 11) (S := fun w' => w'.cell? ⟨g, 0, none⟩ = some (.slice (some ⟨ga, 0, none⟩) (n + 1) c2)) (ds := [10]) #[false, false, false, false, false, false, false, false, false, false, false] (by kernel_rfl) rfl rfl hx0 (fun hHeld => ?_); refine with_tabW hput9_tab hput9_bits (fun HT_ HW_ => ?_)
 have HSd := asd (H9.out.below (below_drew1 (Below.refl _ _)))
 have HCd := asd HC9.out.drew
 clear hx0 H9 HC9
 generalize (World.drew _) = wd at HSd HCd hHeld ⊢
 refine pure_ (i := 0) (N := (some 53)) (v := ?_) (a' := ?_) #[true, false, false, false, false, false, false, false, false, false, false] rfl rfl (any_of HT_.out (by kernel_rfl)) (fun _ _ _ h => h) (Or.inl ⟨by rfl, ?_⟩) ?_ ?_
 rotate_left
 ·intro w'
  go_simp
  with_reducible rfl
 rotate_left
 ·simp only [Act.put, sB, i64_w, i32_w]
  rfl
 refine pure_ (i := 1) (N := (some 54)) (v := ?_) (a' := ?_) #[true, true, false, false, false, false, false, false, false, false, false] rfl rfl (any_of HT_.out (by kernel_rfl)) (fun _ _ _ h => h) (Or.inl ⟨by rfl, ?_⟩) ?_ ?_
 rotate_left
 ·intro w'
  go_simp
  with_reducible rfl
 rotate_left
 ·simp only [Act.put, sB, i64_w, i32_w]
  rfl
 refine pure_ (i := 2) (N := (some 55)) (v := ?_) (a' := ?_) #[true, true, true, false, false, false, false, false, false, false, false] rfl rfl (any_of HT_.out (by kernel_rfl)) (fun _ _ _ h => h) (Or.inl ⟨by rfl, ?_⟩) ?_ ?_
 rotate_left
 ·intro w'
  go_simp
  with_reducible rfl
 rotate_left
 ·simp only [Act.put, sB, i64_w, i32_w]
  rfl
 refine pure_ (i := 3) (N := (some 56)) (v := ?_) (a' := ?_) #[true, true, true, true, false, false, false, false, false, false, false] rfl rfl (any_of HT_.out (by kernel_rfl)) (fun _ _ _ h => h) (Or.inl ⟨by rfl, ?_⟩) ?_ ?_
 rotate_left
 ·intro w'
  go_simp
  with_reducible rfl
 rotate_left
 ·simp only [Act.put, sB, i64_w, i32_w]
  rfl
 refine pure_ (i := 4) (N := (some 57)) (v := ?_) (a' := ?_) #[true, true, true, true, true, false, false, false, false, false, false] rfl rfl (any_of HT_.out (by kernel_rfl)) (fun _ _ _ h => h) (Or.inl ⟨by rfl, ?_⟩) ?_ ?_
 rotate_left
 ·intro w'
  go_simp
  with_reducible rfl
 rotate_left
 ·simp only [Act.put, sB, i64_w, i32_w]
  rfl
 refine pure_ (i := 5) (N := (some 58)) (v := ?_) (a' := ?_) #[true, true, true, true, true, true, false, false, false, false, false] rfl rfl (any_of HT_.out (by kernel_rfl)) (fun _ _ _ h => h) (Or.inl ⟨by rfl, ?_⟩) ?_ ?_
 rotate_left
 ·intro w'
  go_simp
  with_reducible rfl
 rotate_left
 ·simp only [Act.put, sB, i64_w, i32_w]
  rfl
 refine pure_ (i := 6) (N := (some 59)) (v := ?_) (a' := ?_) #[true, true, true, true, true, true, true, false, false, false, false] rfl rfl (any_of HT_.out (by kernel_rfl)) (fun _ _ _ h => h) (Or.inl ⟨by rfl, ?_⟩) ?_ ?_
 rotate_left
 ·intro w'
  go_simp
  with_reducible rfl
 rotate_left
 ·simp only [Act.put, sB, i64_w, i32_w]
  rfl
 refine take_ (i := 7) (N := (some 60)) (v := ?_) (a' := ?_) #[true, true, true, true, true, true, true, true, false, false, false] rfl rfl (take_ofW HT_.out HW_.out (by kernel_rfl)) (fun _ _ _ h => h) (Or.inl ⟨by rfl, ?_⟩) hHeld ?_ ?_
 rotate_left
 ·rintro w' s0
  go_simp
  with_reducible rfl
 rotate_left
 ·simp only [Act.put, sB, i64_w, i32_w]
  rfl
 refine pure_ (i := 8) (N := (some 61)) (v := ?_) (a' := ?_) #[true, true, true, true, true, true, true, true, true, false, false] rfl rfl (any_of HT_.out (by kernel_rfl)) (fun _ _ _ h => h) (Or.inl ⟨by rfl, ?_⟩) ?_ ?_
 rotate_left
 ·intro w'
  go_simp
  with_reducible rfl
 rotate_left
 ·simp only [Act.put, sB, i64_w, i32_w]
  rfl
 refine pure_ (i := 9) (N := (some 62)) (v := ?_) (a' := ?_) #[true, true, true, true, true, true, true, true, true, true, false] rfl rfl (any_of HT_.out (by kernel_rfl)) (fun _ _ _ h => h) (Or.inl ⟨by rfl, ?_⟩) ?_ ?_
 rotate_left
 ·intro w'
  go_simp
  with_reducible rfl
 rotate_left
 ·simp only [Act.put, sB, i64_w, i32_w]
  rfl
 rw [WN.out]
 refine last_ (i := 10) (N := (some 63)) #[true, true, true, true, true, true, true, true, true, true, true] rfl rfl (one_of HT_.out (by kernel_rfl)) (by decide) (fun K hK => ?_)
 refine goes_ Try.func138 (by kernel_rfl) rfl #[.pointer (some ⟨g, 0, none⟩), .int .i64 (n : Int)] (by rfl) rfl rfl (by simp [Act.eval]) ?_
 refine (up_calls HSd.out LP.out n (by have := LE.out; omega) (by have := LE.out; have := HL.out; have := HNN.out; omega) UI.out).mono ?_
 rintro e w11 ⟨rfl, hr, hc⟩
 have HR11 := asd hr
 have HC11 := asd (HCd.out.then_ hc (fun k hk => heapS_new NA.out hk))
 clear hr hc HSd HCd
 refine ⟨_, rfl, ?_⟩
 refine hK.out _ _ ?_
 clear hK K
 refine norm_ (a' := ?_) ?_ ?_
 rotate_left
 ·show Act.put _ (some 63) _ = _
  simp only [Act.put, sB, i64_w, i32_w]
  rfl
 refine done_ (done_of HT_.out (by kernel_rfl)) ?_
 try go_wp2
 go_ret
 obtain ⟨a', p', h1, h2, h3, h4, h5, h6⟩ := HR11.out
 have hhe : HeapP (dus.set id.toNat due) a' := by
  rcases h6 with h6 | ⟨e1, e2, h6⟩
  ·exact h6
  ·rw [e1]; exact down_last h6 (by have := LE.out; omega)
 exact ⟨rfl, ⟨some ⟨ga, 0, none⟩, c2, a', p', ⟨h1, h2, hhe⟩, SI.out.trans (by simp) h3, by rw [h5]; simp, by have := LE.out; have := HNN.out; omega, NA.out⟩, HC11.out⟩
end
end Go.Proofs.Ytalimpniimgheaa.Fn
namespace Go.Proofs.Ytalimpniimgheaa.Fn
open Go.RowKit Go.Proofs.YtalimpniimgheaaW.PrintWords Go.Proofs.YtalimpniimgheaaW.PrintLast Go.Proofs.YtalimpniimgheaaW.PrintMore
set_option linter.unusedVariables false
set_option linter.unusedSimpArgs false
section
variable {w w1 : World} {base g ca gp cp gd cd : Nat} {A : Option Addr} {ats pls dus : List Int}
theorem Linked.far (h : Linked ats pls dus) {id : Int} {k j : Nat} (hk : k < ats.length) (hj : j < ats.length) (e : ats.getD k 0 = id) (hne : j ≠ k) : (ats.getD j 0).toNat ≠ id.toNat := fun q => hne (h.inj hj hk (by have := h.rng j hj; have := h.rng k hk; omega))
theorem Linked.placed (h : Linked ats pls dus) {id : Int} (h0 : 0 ≤ id) (h1 : id < pls.length) (hn : pls.getD id.toNat 0 ≠ -1) : ∃ k : Nat, k < ats.length ∧ pls.getD id.toNat 0 = (k : Int) ∧ ats.getD k 0 = id := by
 rcases h.bwd id.toNat (by omega) with hb | ⟨k, hk, hp, ha⟩
 ·exact absurd hb hn
 ·exact ⟨k, hk, hp, by omega⟩
end
end Go.Proofs.Ytalimpniimgheaa.Fn
namespace Go.Proofs.Ytalimpniimgheaa.Fn
open Go.RowKit Go.Proofs.YtalimpniimgheaaW.PrintWords Go.Proofs.YtalimpniimgheaaW.PrintLast Go.Proofs.YtalimpniimgheaaW.PrintMore
set_option linter.unusedVariables false
set_option linter.unusedSimpArgs false
def hrem4T : Bool × List (List Nat × List Nat) := (true, [([], []), ([0], [0]), ([1], [1]), ([2], [2]), ([3], [3]), ([], []), ([4, 5], [4, 5]), ([6], [6]), ([], []), ([8], [8]), ([9], [9]), ([10], [10]), ([11], [11]), ([12], [12]), ([13], [13]), ([7, 0, 1, 2, 3, 4, 5, 6, 7], [7]), ([14, 15, 0, 1, 2, 3, 4, 5, 6, 7, 8, 9, 10, 11, 12, 13, 14, 15], [14])])
def hrem4B : List Nat := [0, 1, 3, 7, 15, 0, 63, 127, 0, 256, 768, 1792, 3840, 7936, 16128, 255, 65535]
theorem hrem4_tab : rtab .any (opsOf Try.f140 4) = hrem4T := by kernel_rfl
theorem hrem4_bits : waitsOk hrem4T.2 hrem4B = true := by kernel_rfl
def hfst4T : Bool × List (List Nat × List Nat) := (true, [([], []), ([], []), ([1], [1]), ([2], [2]), ([3], [3]), ([4], [4]), ([], []), ([5, 6], [5, 6]), ([7], [7]), ([0, 0], [0]), ([8, 9, 0, 1, 2, 3, 4, 5, 6, 7, 8, 9], [8]), ([10, 0, 1, 2, 3, 4, 5, 6, 7, 8, 9, 10], [])])
def hfst4B : List Nat := [0, 0, 2, 6, 14, 30, 0, 126, 254, 1, 1023, 2047]
theorem hfst4_tab : rtab .any (opsOf Try.f139 4) = hfst4T := by kernel_rfl
theorem hfst4_bits : waitsOk hfst4T.2 hfst4B = true := by kernel_rfl
theorem getD_take {α : Type} (l : List α) (m j : Nat) (z : α) (h : j < m) : (l.take m).getD j z = l.getD j z := by
 simp [List.getD_eq_getElem?_getD, List.getElem?_take, h]
section
variable {w w1 : World} {base g ca gp cp gd cd : Nat} {A : Option Addr} {ats pls dus : List Int}
theorem IsHeap.cut (h : IsHeap w base g A ca ats gp cp pls gd cd dus) (m : Nat) (hm : m ≤ ats.length) : IsHeap (w.setCell ⟨g, 0, none⟩ (.slice A m ca)) base g A ca (ats.take m) gp cp pls gd cd dus := by
 have e : (ats.take m).length = m := by rw [List.length_take]; omega
 refine ⟨?_, h.lo, h.n1, h.n2, h.n3, ?_, ?_, ?_⟩
 ·rw [e]; exact blk_put h.blk 0 _ rfl
 ·rw [e]; exact Kd.R_far (Kd.R_take h.ra hm) (p := ⟨g, 0, none⟩) (fun k hk e => hk.1 e) _
 ·exact Kd.R_far h.rp (p := ⟨g, 0, none⟩) (fun k hk e => h.n1 (by rw [← hk]; exact e)) _
 ·exact Kd.R_far h.rd (p := ⟨g, 0, none⟩) (fun k hk e => h.n2 (by rw [← hk]; exact e)) _
theorem Linked.dropLast (h : Linked ats pls dus) {m : Nat} (hm : ats.length = m + 1) {id : Int} (e : ats.getD m 0 = id) : Linked (ats.take m) (pls.set id.toNat (-1)) dus := by
 have hL : (ats.take m).length = m := by rw [List.length_take]; omega
 refine ⟨by rw [List.length_set]; exact h.len, ?_, ?_, ?_⟩
 ·intro i hi
  rw [hL] at hi
  rw [getD_take _ _ _ _ hi]
  exact h.rng i (by omega)
 ·intro i hi
  rw [hL] at hi
  rw [getD_take _ _ _ _ hi, getD_set, if_neg (fun q => h.far (by omega) (by omega) e (show i ≠ m by omega) q.1.symm)]
  exact h.fwd i (by omega)
 ·intro k hk
  rw [List.length_set] at hk
  rw [getD_set, hL]
  by_cases he : id.toNat = k ∧ id.toNat < pls.length
  ·rw [if_pos he]; exact .inl rfl
  ·rw [if_neg he]
   rcases h.bwd k hk with hb | ⟨j, hj, hp, ha⟩
   ·exact .inl hb
   ·by_cases hjm : j = m
    ·subst hjm
     exact absurd ⟨by omega, by omega⟩ he
    ·exact .inr ⟨j, by omega, hp, by rw [getD_take _ _ _ _ (by omega)]; exact ha⟩
theorem rem_get {k m j : Nat} (hm : ats.length = m + 1) (hk : k < ats.length) (hj : j < m) (hne : j ≠ k) : ((swapA ats k m).take m).getD j 0 = ats.getD j 0 := by
 rw [getD_take _ _ _ _ hj, swapA_get _ _ _ _ hk (by omega), if_neg (by omega), if_neg hne]
theorem rem_up (P : HeapP dus ats) {k m : Nat} (hm : ats.length = m + 1) (hk : k < m) : UpInv false dus ((swapA ats k m).take m) k := by
 have hL : ((swapA ats k m).take m).length = m := by rw [List.length_take, swapA_length]; omega
 refine ⟨fun j hj0 hj hne hp => ?_, fun h0 j hj0 hj hp => ?_⟩
 ·have hpl := parN_lt hj0
  rw [hL] at hj
  rw [rem_get hm (by omega) hj hne, rem_get hm (by omega) (by omega) (hp.resolve_left (by decide))]
  exact P j hj0 (by omega)
 ·have hpl := parN_lt hj0
  have hpk := parN_lt h0
  rw [hL] at hj
  rw [rem_get hm (by omega) hj (by omega), rem_get hm (by omega) (by omega) (by omega)]
  have h3 := P j hj0 (by omega)
  rw [hp] at h3
  exact le_trans' (P k h0 (by omega)) h3
theorem rem_last (P : HeapP dus ats) {k m : Nat} (hm : ats.length = m + 1) (hk : k = m) : HeapP dus ((swapA ats k m).take m) := by
 have hL : ((swapA ats k m).take m).length = m := by rw [List.length_take, swapA_length]; omega
 intro j hj0 hj
 have hpl := parN_lt hj0
 rw [hL] at hj
 rw [rem_get hm (by omega) hj (by omega), rem_get hm (by omega) (by omega) (by omega)]
 exact P j hj0 (by omega)
theorem SameIn.set {p q : List Int} (h : SameIn p q) (hl : q.length = p.length) (i : Nat) (x : Int) : SameIn (p.set i x) (q.set i x) := fun k hk => by
 rw [List.length_set] at hk
 rw [getD_set, getD_set, hl]
 by_cases e : i = k ∧ i < p.length
 ·rw [if_pos e, if_pos e]
 ·rw [if_neg e, if_neg e]; exact h k hk
set_option maxHeartbeats 8000000 in
set_option maxRecDepth 100000 in
theorem remove_calls (h : HOK w base g A ca ats gp cp pls gd cd dus) (id : Int) (h0 : 0 ≤ id) (h1 : id < pls.length) (hn : pls.getD id.toNat 0 ≠ -1) (hl : ats.length ≤ 5000) :
  Calls Try.prog 140 #[.pointer (some ⟨g, 0, none⟩), .int .i64 id] w fun e w' => e = .returned (.bool true) ∧ (∃ ats' pls', HOK w' base g A ca ats' gp cp pls' gd cd dus ∧ SameIn (pls.set id.toNat (-1)) pls' ∧ pls'.length = pls.length ∧ ats'.length + 1 = ats.length) ∧ Chg (heapS g A gp gd) w w' := by
 obtain ⟨k, hk, hpk, hak⟩ := h.li.placed h0 h1 hn
 obtain ⟨ga, rfl⟩ := h.is.som (by omega)
 obtain ⟨m, hm⟩ : ∃ m, ats.length = m + 1 := ⟨ats.length - 1, by omega⟩
 have hlen := h.li.len
 have hi1 : inB pls id = true := decide_eq_true ⟨h0, h1, hn⟩
 have hi2 : inC pls id = 0 := if_pos ⟨h0, h1⟩
 have NC := asd (in_calls h.is id)
 rw [hi1, hi2] at NC
 have hx0 : w.cell? ⟨g, 0, none⟩ = some (.slice (some ⟨ga, 0, none⟩) (m + 1) ca) := (blk_cell h.is.blk 0).trans (by rw [hm]; rfl)
 have hx1 := (blk_cell h.is.blk 1).trans rfl
 have hcc := h.is.pl_ id h0 h1
 rw [hpk] at hcc
 have p0 : (0 ≤ id) = True := eq_true h0
 have p1 : (id < (pls.length : Int)) = True := eq_true h1
 have CAP := asd (show m ≤ ca by obtain ⟨A0, c0, e, hc, _⟩ := Kd.R_reads h.is.ra; injection e with _ _ e3; subst e3; omega)
 have RI := asd (And.intro h0 h1)
 have HS := asd h.is
 have HLI := asd h.li
 have HHE := asd h.he
 have KL := asd (And.intro hk hl)
 have HMM := asd hm
 have AK := asd hak
 have m99 : (m : Int) ≤ 5000 := by omega
 have WN : Aside0 (Go.RowKit.wrap64 (m : Int) = m) := ⟨by unfold Go.RowKit.wrap64; omega⟩
 clear h hl hi1 hi2 hlen h0 h1 hn hk hpk hak hm
 go_enter Try.func140, Try.ntmps140
 go_wp2_with (first | (go_at_call 136; refine NC.out.mono ?_; rintro e w1 ⟨rfl, rfl⟩))
 refine start_ (n := 17) (S := fun w' => w'.cell? ⟨g, 0, none⟩ = some (.slice (some ⟨ga, 0, none⟩) (m + 1) ca) ∧ w'.cell? ⟨g, 1, none⟩ = some (.slice (some ⟨gp, 0, none⟩) pls.length cp) ∧ w'.cell? ⟨gp, id.toNat, none⟩ = some (.int .i64 (k : Int))) (ds := []) #[false, false, false, false, false, false, false, false, false, false, false, false, false, false, false, false, false] (by kernel_rfl) rfl rfl ⟨hx0, hx1, hcc⟩ (fun hHeld => ?_); refine with_tabW hrem4_tab hrem4_bits (fun HT_ HW_ => ?_)
 have H2 := asd (HS.out.below (below_drew1 (Below.refl _ _)))
 have HC2 := asd ((Chg.refl (heapS g (some ⟨ga, 0, none⟩) gp gd) w).drew)
 clear HS hx0 hx1 hcc
 generalize (World.drew _) = w2 at H2 HC2 hHeld ⊢
 refine pure_ (i := 0) (N := (some 17)) (v := ?_) (a' := ?_) #[true, false, false, false, false, false, false, false, false, false, false, false, false, false, false, false, false] rfl rfl (any_of HT_.out (by kernel_rfl)) (fun _ _ _ h => h) (Or.inl ⟨by rfl, ?_⟩) ?_ ?_
 rotate_left
 ·intro w'
  go_simp
  with_reducible rfl
 rotate_left
 ·simp only [Act.put, sB, i64_w, i32_w]
  rfl
 refine pure_ (i := 1) (N := (some 18)) (v := ?_) (a' := ?_) #[true, true, false, false, false, false, false, false, false, false, false, false, false, false, false, false, false] rfl rfl (any_of HT_.out (by kernel_rfl)) (fun _ _ _ h => h) (Or.inl ⟨by rfl, ?_⟩) ?_ ?_
 rotate_left
 ·intro w'
  go_simp
  with_reducible rfl
 rotate_left
 ·simp only [Act.put, sB, i64_w, i32_w]
  rfl
 refine pure_ (i := 2) (N := (some 19)) (v := ?_) (a' := ?_) #[true, true, true, false, false, false, false, false, false, false, false, false, false, false, false, false, false] rfl rfl (any_of HT_.out (by kernel_rfl)) (fun _ _ _ h => h) (Or.inl ⟨by rfl, ?_⟩) ?_ ?_
 rotate_left
 ·intro w'
  go_simp
  with_reducible rfl
 rotate_left
 ·simp only [Act.put, sB, i64_w, i32_w]
  rfl
 refine pure_ (i := 3) (N := (some 20)) (v := ?_) (a' := ?_) #[true, true, true, true, false, false, false, false, false, false, false, false, false, false, false, false, false] rfl rfl (any_of HT_.out (by kernel_rfl)) (fun _ _ _ h => h) (Or.inl ⟨by rfl, ?_⟩) ?_ ?_
 rotate_left
 ·intro w'
  go_simp
  with_reducible rfl
 rotate_left
 ·simp only [Act.put, sB, i64_w, i32_w]
  rfl
 refine take_ (i := 4) (N := (some 21)) (v := ?_) (a' := ?_) #[true, true, true, true, true, false, false, false, false, false, false, false, false, false, false, false, false] rfl rfl (take_ofW HT_.out HW_.out (by kernel_rfl)) (fun _ _ _ h => h) (Or.inl ⟨by rfl, ?_⟩) hHeld ?_ ?_
 rotate_left
 ·rintro w' ⟨s0, s1, s2⟩
  go_simp
  with_reducible rfl
 rotate_left
 ·simp only [Act.put, sB, i64_w, i32_w]
  rfl
 refine pure_ (i := 5) (N := (some 22)) (v := ?_) (a' := ?_) #[true, true, true, true, true, true, false, false, false, false, false, false, false, false, false, false, false] rfl rfl (any_of HT_.out (by kernel_rfl)) (fun _ _ _ h => h) (Or.inl ⟨by rfl, ?_⟩) ?_ ?_
 rotate_left
 ·intro w'
  go_simp
  with_reducible rfl
 rotate_left
 ·simp only [Act.put, sB, i64_w, i32_w]
  rfl
 refine pure_ (i := 6) (N := (some 23)) (v := ?_) (a' := ?_) #[true, true, true, true, true, true, true, false, false, false, false, false, false, false, false, false, false] rfl rfl (any_of HT_.out (by kernel_rfl)) (fun _ _ _ h => h) (Or.inl ⟨by rfl, ?_⟩) ?_ ?_
 rotate_left
 ·intro w'
  go_simp
  with_reducible rfl
 rotate_left
 ·simp only [Act.put, sB, i64_w, i32_w]
  rfl
 refine take_ (i := 7) (N := (some 24)) (v := ?_) (a' := ?_) #[true, true, true, true, true, true, true, true, false, false, false, false, false, false, false, false, false] rfl rfl (take_ofW HT_.out HW_.out (by kernel_rfl)) (fun _ _ _ h => h) (Or.inl ⟨by rfl, ?_⟩) hHeld ?_ ?_
 rotate_left
 ·rintro w' ⟨s0, s1, s2⟩
  go_simp
  with_reducible rfl
 rotate_left
 ·simp only [Act.put, sB, i64_w, i32_w]
  rfl
 refine pure_ (i := 8) (N := (some 25)) (v := ?_) (a' := ?_) #[true, true, true, true, true, true, true, true, true, false, false, false, false, false, false, false, false] rfl rfl (any_of HT_.out (by kernel_rfl)) (fun _ _ _ h => h) (Or.inl ⟨by rfl, ?_⟩) ?_ ?_
 rotate_left
 ·intro w'
  go_simp
  with_reducible rfl
 rotate_left
 ·simp only [Act.put, sB, i64_w, i32_w]
  rfl
 refine pure_ (i := 9) (N := (some 26)) (v := ?_) (a' := ?_) #[true, true, true, true, true, true, true, true, true, true, false, false, false, false, false, false, false] rfl rfl (any_of HT_.out (by kernel_rfl)) (fun _ _ _ h => h) (Or.inl ⟨by rfl, ?_⟩) ?_ ?_
 rotate_left
 ·intro w'
  go_simp
  with_reducible rfl
 rotate_left
 ·simp only [Act.put, sB, i64_w, i32_w]
  rfl
 refine pure_ (i := 10) (N := (some 27)) (v := ?_) (a' := ?_) #[true, true, true, true, true, true, true, true, true, true, true, false, false, false, false, false, false] rfl rfl (any_of HT_.out (by kernel_rfl)) (fun _ _ _ h => h) (Or.inl ⟨by rfl, ?_⟩) ?_ ?_
 rotate_left
 ·intro w'
  go_simp
  with_reducible rfl
 rotate_left
 ·simp only [Act.put, sB, i64_w, i32_w]
  rfl
 refine pure_ (i := 11) (N := (some 28)) (v := ?_) (a' := ?_) #[true, true, true, true, true, true, true, true, true, true, true, true, false, false, false, false, false] rfl rfl (any_of HT_.out (by kernel_rfl)) (fun _ _ _ h => h) (Or.inl ⟨by rfl, ?_⟩) ?_ ?_
 rotate_left
 ·intro w'
  go_simp
  with_reducible rfl
 rotate_left
 ·simp only [Act.put, sB, i64_w, i32_w]
  rfl
 refine take_ (i := 12) (N := (some 29)) (v := ?_) (a' := ?_) #[true, true, true, true, true, true, true, true, true, true, true, true, true, false, false, false, false] rfl rfl (take_ofW HT_.out HW_.out (by kernel_rfl)) (fun _ _ _ h => h) (Or.inl ⟨by rfl, ?_⟩) hHeld ?_ ?_
 rotate_left
 ·rintro w' ⟨s0, s1, s2⟩
  go_simp
  with_reducible rfl
 rotate_left
 ·simp only [Act.put, sB, i64_w, i32_w]
  rfl
 refine pure_ (i := 13) (N := (some 30)) (v := ?_) (a' := ?_) #[true, true, true, true, true, true, true, true, true, true, true, true, true, true, false, false, false] rfl rfl (any_of HT_.out (by kernel_rfl)) (fun _ _ _ h => h) (Or.inl ⟨by rfl, ?_⟩) ?_ ?_
 rotate_left
 ·intro w'
  go_simp
  with_reducible rfl
 rotate_left
 ·simp only [Act.put, sB, i64_w, i32_w]
  rfl
 refine pure_ (i := 15) (N := (some 7)) (v := ?_) (a' := ?_) #[true, true, true, true, true, true, true, true, true, true, true, true, true, true, false, true, false] rfl rfl (any_of HT_.out (by kernel_rfl)) (fun _ _ _ h => h) (Or.inl ⟨by rfl, ?_⟩) ?_ ?_
 rotate_left
 ·intro w'
  go_simp
  with_reducible rfl
 rotate_left
 ·simp only [Act.put, sB, i64_w, i32_w]
  rfl
 refine pure_ (i := 14) (N := (some 31)) (v := ?_) (a' := ?_) #[true, true, true, true, true, true, true, true, true, true, true, true, true, true, true, true, false] rfl rfl (any_of HT_.out (by kernel_rfl)) (fun _ _ _ h => h) (Or.inl ⟨by rfl, ?_⟩) ?_ ?_
 rotate_left
 ·intro w'
  go_simp
  with_reducible rfl
 rotate_left
 ·simp only [Act.put, sB, i64_w, i32_w]
  rfl
 refine pure_ (i := 16) (N := (some 8)) (v := ?_) (a' := ?_) #[true, true, true, true, true, true, true, true, true, true, true, true, true, true, true, true, true] rfl rfl (any_of HT_.out (by kernel_rfl)) (fun _ _ _ h => h) (Or.inl ⟨by rfl, ?_⟩) ?_ ?_
 rotate_left
 ·intro w'
  go_simp
  with_reducible rfl
 rotate_left
 ·simp only [Act.put, sB, i64_w, i32_w]
  rfl
 rw [WN.out]
 refine done_ (done_of HT_.out (by kernel_rfl)) ?_
 clear hHeld
 go_wp2_with fail
 refine (swap_calls H2.out HLI.out k m KL.out.1 (by have := HMM.out; omega)).mono ?_
 rintro e w3 ⟨rfl, h3, hc3⟩
 have SW := asd (HLI.out.swap KL.out.1 (show m < ats.length by have := HMM.out; omega))
 have HL3 : Aside0 ((swapA ats k m).length = m + 1) := ⟨by rw [swapA_length]; exact HMM.out⟩
 have HC3 := asd (HC2.out.trans hc3)
 have hx0 : w3.cell? ⟨g, 0, none⟩ = some (.slice (some ⟨ga, 0, none⟩) (m + 1) ca) := (blk_cell h3.blk 0).trans (by rw [HL3.out]; rfl)
 have hf0 := blk_frozen h3.blk 0
 have H4 := asd (h3.cut m (by have := HL3.out; omega))
 have HC4 := asd (HC3.out.set_ (p := ⟨g, 0, none⟩) (.inl (.inl rfl)) (.slice (some ⟨ga, 0, none⟩) m ca))
 have PLN : Aside0 ((swapP ats pls k m).length = pls.length) := ⟨swapP_length _ _ _ _⟩
 have hx1 : (w3.setCell ⟨g, 0, none⟩ (.slice (some ⟨ga, 0, none⟩) m ca)).cell? ⟨g, 1, none⟩ = some (.slice (some ⟨gp, 0, none⟩) pls.length cp) := (blk_cell H4.out.blk 1).trans (by rw [PLN.out]; rfl)
 have hcc := H4.out.pl_ id RI.out.1 (by rw [PLN.out]; exact RI.out.2)
 have hff := Kd.R_elem_frozen H4.out.rp id.toNat (by rw [PLN.out]; have := RI.out; omega)
 have H5 := asd (H4.out.putP id (-1))
 have HC5 := asd (HC4.out.set_ (p := ⟨gp, id.toNat, none⟩) (.inl (.inr (.inr (.inl rfl)))) (.int .i64 (-1)))
 have c0 : (0 ≤ (m : Int)) = True := eq_true (by omega)
 have c1 : ((m : Int) ≤ (ca : Int)) = True := eq_true (by have := CAP.out; omega)
 have c2 : (m ≤ ca) = True := eq_true CAP.out
 have DL := asd (SW.out.1.dropLast HL3.out (id := id) (by rw [swapA_get _ _ _ _ KL.out.1 (by have := HMM.out; omega), if_pos rfl]; exact AK.out))
 have SI := asd (SW.out.2.set PLN.out id.toNat (-1))
 have PL2 : Aside0 (((swapP ats pls k m).set id.toNat (-1)).length = pls.length) := ⟨by rw [List.length_set]; exact PLN.out⟩
 have HL5 : Aside0 (((swapA ats k m).take m).length = m) := ⟨by rw [List.length_take]; have := HL3.out; omega⟩
 clear h3 hc3 H2 HC2 HC3 H4 HC4 SW PLN
 by_cases hkm : k < m
 ·have d0 : decide ((k : Int) < (m : Int)) = true := decide_eq_true (by omega)
  have d1 : decide (k < m) = true := decide_eq_true hkm
  have UI := asd (rem_up HHE.out HMM.out hkm)
  have HKM := asd hkm
  clear hkm
  go_wp2_with fail
  generalize (World.setCell _ ⟨gp, id.toNat, none⟩ (.int .i64 (-1))) = w5 at H5 HC5 ⊢
  refine (up_calls H5.out DL.out k (by rw [HL5.out]; exact HKM.out) (by rw [HL5.out]; omega) UI.out).mono ?_
  rintro e w6 ⟨rfl, ⟨a2, p2, h6, hl6, hs6, hla, hlp, hor⟩, hc6⟩
  have H6 := asd h6
  have HC6 := asd (HC5.out.trans hc6)
  have L6 := asd hl6
  have S6 := asd hs6
  have N6 := asd (And.intro hla hlp)
  have KA : Aside0 (k < a2.length) := ⟨by rw [hla, HL5.out]; exact HKM.out⟩
  have D6 : Aside0 (DownInv dus a2 k) := ⟨by
   rcases hor with hh | ⟨e1, e2, hh⟩
   ·exact heap_down hh k KA.out
   ·rw [e1]; exact hh⟩
  clear h6 hl6 hs6 hla hlp hor hc6 hx0 hx1 hcc hff hf0 H5 HC5
  go_wp2_with fail
  refine (down_calls H6.out L6.out k KA.out (by rw [N6.out.1, HL5.out]; omega) D6.out).mono ?_
  rintro e w7 ⟨rfl, ⟨a3, p3, h7, hl7, hs7, hla, hlp, hhe⟩, hc7⟩
  have HC7 := asd (HC6.out.trans hc7)
  have FIN : Aside0 (∃ ats' pls', HOK w7 base g (some ⟨ga, 0, none⟩) ca ats' gp cp pls' gd cd dus ∧ SameIn (pls.set id.toNat (-1)) pls' ∧ pls'.length = pls.length ∧ ats'.length + 1 = ats.length) := ⟨a3, p3, ⟨h7, hl7, hhe⟩, (SI.out.trans (by rw [PL2.out, List.length_set]) S6.out).trans (by rw [N6.out.2, PL2.out, List.length_set]) hs7, by rw [hlp, N6.out.2, PL2.out], by rw [hla, N6.out.1, HL5.out, HMM.out]⟩
  clear h7 hl7 hs7 hla hlp hhe hc7
  go_wp2
  go_ret
  exact ⟨rfl, FIN.out, HC7.out⟩
 ·have d0 : decide ((k : Int) < (m : Int)) = false := decide_eq_false (by omega)
  have d1 : decide (k < m) = false := decide_eq_false hkm
  have HE := asd (rem_last HHE.out HMM.out (show k = m by have := KL.out.1; have := HMM.out; omega))
  clear hkm
  go_wp2
  go_ret
  exact ⟨rfl, ⟨_, _, ⟨H5.out, DL.out, HE.out⟩, SI.out, PL2.out, by rw [HL5.out, HMM.out]⟩, HC5.out⟩
set_option maxHeartbeats 8000000 in
set_option maxRecDepth 100000 in
theorem first_calls (h : HOK w base g A ca ats gp cp pls gd cd dus) (hp : 0 < ats.length) :
  Calls Try.prog 139 #[.pointer (some ⟨g, 0, none⟩)] w fun e w' => e = .returned (.tuple #[.int .i64 (ats.getD 0 0), .int .i64 (dus.getD (ats.getD 0 0).toNat 0), .bool true]) ∧ Below w.heap.size w w' := by
 obtain ⟨ga, rfl⟩ := h.is.som hp
 have NC := asd (none_calls h.is)
 have hr := h.li.rng 0 hp
 have hx0 := (blk_cell h.is.blk 0).trans rfl
 have hx2 := (blk_cell h.is.blk 2).trans rfl
 have hca := h.is.at_ 0 hp
 have hcd := h.is.due_ (ats.getD 0 0) hr.1 hr.2
 generalize ats.getD 0 0 = x at *
 generalize dus.getD x.toNat 0 = y at *
 have p0 : (0 ≤ x) = True := eq_true hr.1
 have p1 : (x < (dus.length : Int)) = True := eq_true hr.2
 have p2 : ((0 : Int) < (ats.length : Int)) = True := eq_true (by omega)
 have p3 : (0 < ats.length) = True := eq_true hp
 have d0 : decide ((ats.length : Int) = 0) = false := decide_eq_false (by omega)
 have d1 : ((ats.length : Int) == 0) = false := beq_eq_false_iff_ne.2 (by omega)
 have d2 : decide (ats.length = 0) = false := decide_eq_false (by omega)
 generalize ats.length = n at *
 clear h hr hp
 go_enter Try.func139, Try.ntmps139
 go_wp2_with (first | (go_at_call 146; refine NC.out.mono ?_; rintro e w1 ⟨rfl, rfl⟩))
 refine start_ (n := 12) (S := fun w' => w'.cell? ⟨g, 2, none⟩ = some (.slice (some ⟨gd, 0, none⟩) dus.length cd) ∧ w'.cell? ⟨gd, x.toNat, none⟩ = some (.int .i64 y)) (ds := []) #[false, false, false, false, false, false, false, false, false, false, false, false] (by kernel_rfl) rfl rfl ⟨hx2, hcd⟩ (fun hHeld => ?_); refine with_tabW hfst4_tab hfst4_bits (fun HT_ HW_ => ?_)
 have HB := asd (below_drew1 (Below.refl w.heap.size w))
 clear hx2 hcd
 generalize (World.drew _) = w2 at HB hHeld ⊢
 refine pure_ (i := 0) (N := (some 24)) (v := ?_) (a' := ?_) #[true, false, false, false, false, false, false, false, false, false, false, false] rfl rfl (any_of HT_.out (by kernel_rfl)) (fun _ _ _ h => h) (Or.inl ⟨by rfl, ?_⟩) ?_ ?_
 rotate_left
 ·intro w'
  go_simp
  with_reducible rfl
 rotate_left
 ·simp only [Act.put, sB, i64_w, i32_w]
  rfl
 refine pure_ (i := 9) (N := (some 2)) (v := ?_) (a' := ?_) #[true, false, false, false, false, false, false, false, false, true, false, false] rfl rfl (any_of HT_.out (by kernel_rfl)) (fun _ _ _ h => h) (Or.inl ⟨by rfl, ?_⟩) ?_ ?_
 rotate_left
 ·intro w'
  go_simp
  with_reducible rfl
 rotate_left
 ·simp only [Act.put, sB, i64_w, i32_w]
  rfl
 refine pure_ (i := 1) (N := (some 25)) (v := ?_) (a' := ?_) #[true, true, false, false, false, false, false, false, false, true, false, false] rfl rfl (any_of HT_.out (by kernel_rfl)) (fun _ _ _ h => h) (Or.inl ⟨by rfl, ?_⟩) ?_ ?_
 rotate_left
 ·intro w'
  go_simp
  with_reducible rfl
 rotate_left
 ·simp only [Act.put, sB, i64_w, i32_w]
  rfl
 refine pure_ (i := 2) (N := (some 26)) (v := ?_) (a' := ?_) #[true, true, true, false, false, false, false, false, false, true, false, false] rfl rfl (any_of HT_.out (by kernel_rfl)) (fun _ _ _ h => h) (Or.inl ⟨by rfl, ?_⟩) ?_ ?_
 rotate_left
 ·intro w'
  go_simp
  with_reducible rfl
 rotate_left
 ·simp only [Act.put, sB, i64_w, i32_w]
  rfl
 refine pure_ (i := 3) (N := (some 27)) (v := ?_) (a' := ?_) #[true, true, true, true, false, false, false, false, false, true, false, false] rfl rfl (any_of HT_.out (by kernel_rfl)) (fun _ _ _ h => h) (Or.inl ⟨by rfl, ?_⟩) ?_ ?_
 rotate_left
 ·intro w'
  go_simp
  with_reducible rfl
 rotate_left
 ·simp only [Act.put, sB, i64_w, i32_w]
  rfl
 refine pure_ (i := 4) (N := (some 28)) (v := ?_) (a' := ?_) #[true, true, true, true, true, false, false, false, false, true, false, false] rfl rfl (any_of HT_.out (by kernel_rfl)) (fun _ _ _ h => h) (Or.inl ⟨by rfl, ?_⟩) ?_ ?_
 rotate_left
 ·intro w'
  go_simp
  with_reducible rfl
 rotate_left
 ·simp only [Act.put, sB, i64_w, i32_w]
  rfl
 refine take_ (i := 5) (N := (some 29)) (v := ?_) (a' := ?_) #[true, true, true, true, true, true, false, false, false, true, false, false] rfl rfl (take_ofW HT_.out HW_.out (by kernel_rfl)) (fun _ _ _ h => h) (Or.inl ⟨by rfl, ?_⟩) hHeld ?_ ?_
 rotate_left
 ·rintro w' ⟨s0, s1⟩
  go_simp
  with_reducible rfl
 rotate_left
 ·simp only [Act.put, sB, i64_w, i32_w]
  rfl
 refine pure_ (i := 6) (N := (some 30)) (v := ?_) (a' := ?_) #[true, true, true, true, true, true, true, false, false, true, false, false] rfl rfl (any_of HT_.out (by kernel_rfl)) (fun _ _ _ h => h) (Or.inl ⟨by rfl, ?_⟩) ?_ ?_
 rotate_left
 ·intro w'
  go_simp
  with_reducible rfl
 rotate_left
 ·simp only [Act.put, sB, i64_w, i32_w]
  rfl
 refine pure_ (i := 7) (N := (some 31)) (v := ?_) (a' := ?_) #[true, true, true, true, true, true, true, true, false, true, false, false] rfl rfl (any_of HT_.out (by kernel_rfl)) (fun _ _ _ h => h) (Or.inl ⟨by rfl, ?_⟩) ?_ ?_
 rotate_left
 ·intro w'
  go_simp
  with_reducible rfl
 rotate_left
 ·simp only [Act.put, sB, i64_w, i32_w]
  rfl
 refine take_ (i := 8) (N := (some 32)) (v := ?_) (a' := ?_) #[true, true, true, true, true, true, true, true, true, true, false, false] rfl rfl (take_ofW HT_.out HW_.out (by kernel_rfl)) (fun _ _ _ h => h) (Or.inl ⟨by rfl, ?_⟩) hHeld ?_ ?_
 rotate_left
 ·rintro w' ⟨s0, s1⟩
  go_simp
  with_reducible rfl
 rotate_left
 ·simp only [Act.put, sB, i64_w, i32_w]
  rfl
 refine pure_ (i := 10) (N := (some 3)) (v := ?_) (a' := ?_) #[true, true, true, true, true, true, true, true, true, true, true, false] rfl rfl (any_of HT_.out (by kernel_rfl)) (fun _ _ _ h => h) (Or.inl ⟨by rfl, ?_⟩) ?_ ?_
 rotate_left
 ·intro w'
  go_simp
  with_reducible rfl
 rotate_left
 ·simp only [Act.put, sB, i64_w, i32_w]
  rfl
 refine pure_ (i := 11) (N := (some 4)) (v := ?_) (a' := ?_) #[true, true, true, true, true, true, true, true, true, true, true, true] rfl rfl (any_of HT_.out (by kernel_rfl)) (fun _ _ _ h => h) (Or.inl ⟨by rfl, ?_⟩) ?_ ?_
 rotate_left
 ·intro w'
  go_simp
  with_reducible rfl
 rotate_left
 ·simp only [Act.put, sB, i64_w, i32_w]
  rfl
 refine done_ (done_of HT_.out (by kernel_rfl)) ?_
 try go_wp2
 go_ret3
 exact ⟨rfl, HB.out⟩
set_option maxHeartbeats 4000000 in
set_option maxRecDepth 100000 in
theorem first_none (h : IsHeap w base g A ca [] gp cp pls gd cd dus) :
  Calls Try.prog 139 #[.pointer (some ⟨g, 0, none⟩)] w fun e w' => e = .returned (.tuple #[.int .i64 0, .int .i64 0, .bool false]) ∧ w = w' := by
 have NC := asd (none_calls h)
 have hx0 : w.cell? ⟨g, 0, none⟩ = some (.slice A 0 ca) := (blk_cell h.blk 0).trans rfl
 clear h
 go_enter Try.func139, Try.ntmps139
 go_wp2_with (first | (go_at_call 146; refine NC.out.mono ?_; rintro e w1 ⟨rfl, rfl⟩))
 go_ret3
 simp
set_option maxHeartbeats 4000000 in
set_option maxRecDepth 100000 in
theorem pop_none (h : IsHeap w base g A ca [] gp cp pls gd cd dus) :
  Calls Try.prog 113 #[.pointer (some ⟨g, 0, none⟩)] w fun e w' => e = .returned (.tuple #[.int .i64 0, .int .i64 0, .bool false]) ∧ w = w' := by
 have NC := asd (first_none h)
 clear h
 go_enter Try.func113, Try.ntmps113
 go_wp2_with (first | (go_at_call 139; refine NC.out.mono ?_; rintro e w1 ⟨rfl, rfl⟩))
 go_ret3
 simp
set_option maxHeartbeats 4000000 in
set_option maxRecDepth 100000 in
theorem pop_calls (h : HOK w base g A ca ats gp cp pls gd cd dus) (hp : 0 < ats.length) (hl : ats.length ≤ 5000) :
  Calls Try.prog 113 #[.pointer (some ⟨g, 0, none⟩)] w fun e w' => ∃ x : Int, e = .returned (.tuple #[.int .i64 x, .int .i64 (dus.getD x.toNat 0), .bool true]) ∧ (0 ≤ x ∧ x < pls.length ∧ pls.getD x.toNat 0 ≠ -1 ∧ ∀ y : Int, 0 ≤ y → y < pls.length → pls.getD y.toNat 0 ≠ -1 → leD dus x y) ∧ (∃ ats' pls', HOK w' base g A ca ats' gp cp pls' gd cd dus ∧ SameIn (pls.set x.toNat (-1)) pls' ∧ pls'.length = pls.length ∧ ats'.length + 1 = ats.length) ∧ Chg (heapS g A gp gd) w w' := by
 have FC := asd (first_calls h hp)
 have hr := h.li.rng 0 hp
 have hlen := h.li.len
 have hpx : pls.getD (ats.getD 0 0).toNat 0 ≠ -1 := by rw [h.li.fwd 0 hp]; omega
 have LE : Aside0 (∀ y : Int, 0 ≤ y → y < pls.length → pls.getD y.toNat 0 ≠ -1 → leD dus (ats.getD 0 0) y) := ⟨fun y h0 h1 h2 => by
  obtain ⟨k, hk, _, e⟩ := h.li.placed h0 h1 h2
  rw [← e]; exact heap_min h.he k hk⟩
 generalize ats.getD 0 0 = x at *
 have RX := asd (show 0 ≤ x ∧ x < pls.length by omega)
 have PX := asd hpx
 have HH := asd h
 have HL := asd hl
 generalize hy : dus.getD x.toNat 0 = y at FC
 have HY := asd hy
 clear h hr hp hlen hpx hl hy
 go_enter Try.func113, Try.ntmps113
 go_wp2_with (first | (go_at_call 139; refine FC.out.mono ?_; rintro e w1 ⟨rfl, hb⟩; have HC1 := asd (Chg.of_below hb (heapS g A gp gd)); have RC := asd (remove_calls (⟨HH.out.is.below hb, HH.out.li, HH.out.he⟩ : HOK w1 base g A ca ats gp cp pls gd cd dus) x RX.out.1 RX.out.2 PX.out HL.out); clear hb) | (go_at_call 140; refine RC.out.mono ?_; rintro e w2 ⟨rfl, hex, hc⟩; have EX := asd hex; have HC2 := asd (HC1.out.trans hc); clear hex hc RC))
 go_ret3
 exact ⟨x, by rw [HY.out]; rfl, ⟨RX.out.1, RX.out.2, PX.out, LE.out⟩, EX.out, HC2.out⟩
end
end Go.Proofs.Ytalimpniimgheaa.Fn
namespace Go.Proofs.Ytalimpniimgheaa.Fn
open Go.RowKit Go.Proofs.YtalimpniimgheaaW.PrintWords Go.Proofs.YtalimpniimgheaaW.PrintLast Go.Proofs.YtalimpniimgheaaW.PrintMore
set_option linter.unusedVariables false
set_option linter.unusedSimpArgs false
def zz64 : S64 := ⟨0, 0, 0, 0⟩
def Av (yss : List (List S64)) (pos : List Nat) (i : Nat) : Prop := i < yss.length ∧ pos.getD i 0 < (yss.getD i []).length
def entO (yss : List (List S64)) (pos : List Nat) (i : Nat) : S64 := (yss.getD i []).getD (pos.getD i 0) zz64
def Least (yss : List (List S64)) (pos : List Nat) (i : Nat) : Prop := Av yss pos i ∧ ∀ j, Av yss pos j → (entO yss pos i).f0 < (entO yss pos j).f0 ∨ ((entO yss pos i).f0 = (entO yss pos j).f0 ∧ i ≤ j)
def stepP (pos : List Nat) (i : Nat) : List Nat := pos.set i (pos.getD i 0 + 1)
inductive Mg (yss : List (List S64)) : List Nat → List (Nat × S64) → Prop where
 | done {pos : List Nat} : (∀ i, ¬ Av yss pos i) → Mg yss pos []
 | step {pos : List Nat} {i : Nat} {rs : List (Nat × S64)} : Least yss pos i → Mg yss (stepP pos i) rs → Mg yss pos ((i, entO yss pos i) :: rs)
theorem least_unique {yss : List (List S64)} {pos : List Nat} {i j : Nat} (h : Least yss pos i) (k : Least yss pos j) : i = j := by
 have h1 := h.2 j k.1
 have h2 := k.2 i h.1
 omega
theorem mg_fun {yss : List (List S64)} {pos : List Nat} {r1 r2 : List (Nat × S64)} (h : Mg yss pos r1) (k : Mg yss pos r2) : r1 = r2 := by
 induction h generalizing r2 with
 | done hd =>
  cases k with
  | done _ => rfl
  | step hl _ => exact absurd hl.1 (hd _)
 | step hl _ ih =>
  cases k with
  | done hd => exact absurd hl.1 (hd _)
  | step hl2 hm =>
   obtain rfl := least_unique hl hl2
   rw [ih hm]
def Pre (yss : List (List S64)) (pos0 : List Nat) (out : List (Nat × S64)) (pos : List Nat) : Prop := ∀ rs, Mg yss pos rs → Mg yss pos0 (out ++ rs)
theorem pre_nil (yss : List (List S64)) (pos : List Nat) : Pre yss pos [] pos := fun _ h => h
theorem pre_step {yss : List (List S64)} {pos0 pos : List Nat} {out : List (Nat × S64)} {i : Nat} (h : Pre yss pos0 out pos) (hl : Least yss pos i) : Pre yss pos0 (out ++ [(i, entO yss pos i)]) (stepP pos i) := fun rs hm => by
 rw [List.append_assoc]
 exact h _ (.step hl hm)
theorem pre_end {yss : List (List S64)} {pos0 pos : List Nat} {out : List (Nat × S64)} (h : Pre yss pos0 out pos) (hd : ∀ i, ¬ Av yss pos i) : Mg yss pos0 out := by
 have h1 := h [] (.done hd)
 rwa [List.append_nil] at h1
def leftN (yss : List (List S64)) (pos : List Nat) : Nat := ((List.range yss.length).map (fun i => (yss.getD i []).length - pos.getD i 0)).sum
theorem sum_lower (f g : Nat → Nat) (l : List Nat) (h : ∀ i, i ∈ l → g i ≤ f i) : (l.map g).sum ≤ (l.map f).sum := by
 induction l with
 | nil => exact Nat.le_refl _
 | cons a l ih =>
  have h1 := h a (by simp)
  have h2 := ih (fun i hi => h i (by simp [hi]))
  simp only [List.map_cons, List.sum_cons]; omega
theorem sum_less (f g : Nat → Nat) (l : List Nat) (x : Nat) (hx : x ∈ l) (h : ∀ i, i ∈ l → g i ≤ f i) (hl : g x < f x) : (l.map g).sum < (l.map f).sum := by
 induction l with
 | nil => simp at hx
 | cons a l ih =>
  have h1 := h a (by simp)
  have h2 := sum_lower f g l (fun i hi => h i (by simp [hi]))
  simp only [List.map_cons, List.sum_cons]
  rcases List.mem_cons.1 hx with rfl | hx
  ·omega
  ·have := ih hx (fun i hi => h i (by simp [hi])); omega
theorem left_step {yss : List (List S64)} {pos : List Nat} {i : Nat} (hp : pos.length = yss.length) (h : Av yss pos i) : leftN yss (stepP pos i) < leftN yss pos := by
 unfold leftN stepP
 refine sum_less _ _ _ i (List.mem_range.2 h.1) (fun j _ => ?_) ?_
 ·rw [getD_set]
  by_cases e : i = j ∧ i < pos.length
  ·rw [if_pos e]; obtain ⟨rfl, _⟩ := e; omega
  ·rw [if_neg e]; exact Nat.le_refl _
 ·rw [getD_set, if_pos ⟨rfl, by rw [hp]; exact h.1⟩]
  have := h.2
  omega
theorem least_exists (yss : List (List S64)) (pos : List Nat) : ∀ n, n ≤ yss.length → (∀ i, i < n → ¬ Av yss pos i) ∨ ∃ i, i < n ∧ Av yss pos i ∧ ∀ j, j < n → Av yss pos j → (entO yss pos i).f0 < (entO yss pos j).f0 ∨ ((entO yss pos i).f0 = (entO yss pos j).f0 ∧ i ≤ j)
 | 0, _ => .inl (fun i hi => absurd hi (by omega))
 | n + 1, hn => by
  rcases least_exists yss pos n (by omega) with h | ⟨i, hi, ha, hm⟩
  ·by_cases hav : Av yss pos n
   ·refine .inr ⟨n, by omega, hav, fun j hj haj => ?_⟩
    by_cases e : j = n
    ·subst e; omega
    ·exact absurd haj (h j (by omega))
   ·exact .inl (fun i hi => by
     by_cases e : i = n
     ·subst e; exact hav
     ·exact h i (by omega))
  ·by_cases hav : Av yss pos n ∧ (entO yss pos n).f0 < (entO yss pos i).f0
   ·refine .inr ⟨n, by omega, hav.1, fun j hj haj => ?_⟩
    by_cases e : j = n
    ·subst e; omega
    ·have := hm j (by omega) haj; have := hav.2; omega
   ·refine .inr ⟨i, by omega, ha, fun j hj haj => ?_⟩
    by_cases e : j = n
    ·subst e
     have : ¬ (entO yss pos j).f0 < (entO yss pos i).f0 := fun q => hav ⟨haj, q⟩
     omega
    ·exact hm j (by omega) haj
theorem least_or (yss : List (List S64)) (pos : List Nat) : (∀ i, ¬ Av yss pos i) ∨ ∃ i, Least yss pos i := by
 rcases least_exists yss pos yss.length (Nat.le_refl _) with h | ⟨i, _, ha, hm⟩
 ·exact .inl (fun i hi => h i hi.1 hi)
 ·exact .inr ⟨i, ha, fun j hj => hm j hj.1 hj⟩
theorem stepP_length (pos : List Nat) (i : Nat) : (stepP pos i).length = pos.length := by simp [stepP]
theorem mg_exists (yss : List (List S64)) : ∀ n pos, pos.length = yss.length → leftN yss pos ≤ n → ∃ rs, Mg yss pos rs ∧ rs.length ≤ n := by
 intro n
 induction n with
 | zero =>
  intro pos hp hn
  rcases least_or yss pos with h | ⟨i, h⟩
  ·exact ⟨[], .done h, Nat.le_refl _⟩
  ·have := left_step hp h.1; omega
 | succ n ih =>
  intro pos hp hn
  rcases least_or yss pos with h | ⟨i, h⟩
  ·exact ⟨[], .done h, by simp⟩
  ·have h1 := left_step hp h.1
   obtain ⟨rs, hm, hl⟩ := ih (stepP pos i) (by rw [stepP_length]; exact hp) (by omega)
   exact ⟨_, .step h hm, by simp; omega⟩
theorem left_le (yss : List (List S64)) (pos : List Nat) (b : Nat) (hb : ∀ i, (yss.getD i []).length ≤ b) : leftN yss pos ≤ yss.length * b := by
 unfold leftN
 have h1 := sum_lower (fun _ => b) (fun i => (yss.getD i []).length - pos.getD i 0) (List.range yss.length) (fun i _ => by have := hb i; omega)
 refine Nat.le_trans h1 ?_
 have h : ∀ l : List Nat, (l.map (fun _ => b)).sum = l.length * b := by
  intro l
  induction l with
  | nil => simp
  | cons a l ih => rw [List.map_cons, List.sum_cons, ih, List.length_cons, Nat.succ_mul, Nat.add_comm]
 rw [h, List.length_range]
 exact Nat.le_refl _
end Go.Proofs.Ytalimpniimgheaa.Fn
namespace Go.Proofs.Ytalimpniimgheaa.Fn
open Go.RowKit Go.Proofs.YtalimpniimgheaaW.PrintWords Go.Proofs.YtalimpniimgheaaW.PrintLast Go.Proofs.YtalimpniimgheaaW.PrintMore
set_option linter.unusedVariables false
set_option linter.unusedSimpArgs false
def e65 (x : S64) : S65 := ⟨x.f0, x.f1, x.f2, x.f3⟩
def KS : Kd (Option Addr × Nat × Nat) := Kd.scalar (fun s => Value.slice s.1 s.2.1 s.2.2) (fun _ => rfl)
def dS : Option Addr × Nat × Nat := (none, 0, 0)
theorem list_choose {α : Type} (d : α) (P : Nat → α → Prop) : ∀ n, (∀ i, i < n → ∃ s, P i s) → ∃ ss : List α, ss.length = n ∧ ∀ i, i < n → P i (ss.getD i d)
 | 0, _ => ⟨[], rfl, fun i hi => absurd hi (by omega)⟩
 | n + 1, h => by
  obtain ⟨ss, hl, hs⟩ := list_choose d P n (fun i hi => h i (by omega))
  obtain ⟨s, hp⟩ := h n (by omega)
  refine ⟨ss ++ [s], by simp [hl], fun i hi => ?_⟩
  by_cases e : i = n
  ·subst e
   have h1 := getD_app_last ss s d
   rw [hl] at h1
   rw [h1]; exact hp
  ·rw [getD_app _ _ _ _ (by omega)]; exact hs i (by omega)
theorem ks_of {w : World} {A : Option Addr} {yss : List (List S65)} (h : Kd.C (Kd.slice 65 k65) w A yss.length yss) : ∃ ss, KS.C w A ss.length ss ∧ ss.length = yss.length ∧ ∀ i, i < yss.length → (ss.getD i dS).2.1 = (yss.getD i []).length ∧ (yss.getD i []).length ≤ (ss.getD i dS).2.2 ∧ k65.C w (ss.getD i dS).1 (yss.getD i []).length (yss.getD i []) := by
 rcases Nat.eq_zero_or_pos yss.length with h0 | h0
 ·exact ⟨[], ⟨rfl, by simp, fun q => absurd q (by simp)⟩, h0.symm, fun i hi => absurd hi (by omega)⟩
 ·obtain ⟨ad, rfl, hc⟩ := h.2.2 h0
  obtain ⟨ss, hl, hs⟩ := list_choose dS (fun i s => w.cell? (ad.add i) = some (.slice s.1 s.2.1 s.2.2) ∧ s.2.1 = (yss.getD i []).length ∧ (yss.getD i []).length ≤ s.2.2 ∧ k65.C w s.1 (yss.getD i []).length (yss.getD i [])) yss.length (fun i hi => by
   obtain ⟨c, _, ⟨A1, c1, rfl, h2, h3⟩, h4⟩ := hc i _ (List.getElem?_eq_getElem hi)
   have h5 := h4 0 _ rfl
   have e : yss.getD i [] = yss[i] := by simp [List.getD, hi]
   refine ⟨(A1, yss[i].length, c1), ?_, by rw [e], by rw [e]; exact h2, by rw [e]; exact h3⟩
   rwa [show i * (Kd.slice 65 k65).sz + 0 = i from Nat.mul_one i] at h5)
  refine ⟨ss, ⟨rfl, by rw [hl]; exact h.2.1, fun _ => ⟨ad, rfl, fun j p hj => ?_⟩⟩, hl, fun i hi => (hs i hi).2⟩
  have hj2 : j < ss.length := (List.getElem?_eq_some_iff.1 hj).1
  have hjp : ss.getD j dS = p := by simp [List.getD, hj]
  refine ⟨[.slice p.1 p.2.1 p.2.2], rfl, rfl, fun i u hu => ?_⟩
  have h6 := (hs j (by omega)).1
  rw [hjp] at h6
  match i, hu with
  | 0, hu =>
   rw [show j * KS.sz + 0 = j from Nat.mul_one j]
   rw [h6]; simpa using hu
  | i + 1, hu => exact absurd hu (by simp)
theorem getD_map {α β : Type} (f : α → β) (l : List α) (i : Nat) (d : α) : (l.map f).getD i (f d) = f (l.getD i d) := by
 simp only [List.getD_eq_getElem?_getD, List.getElem?_map]
 cases l[i]? <;> rfl
theorem drop_cons {α : Type} (l : List α) (p : Nat) (d : α) (h : p < l.length) : l.drop p = l.getD p d :: l.drop (p + 1) := by
 rw [List.drop_eq_getElem_cons h]; simp [List.getD, h]
def restO (yss : List (List S64)) (pos : List Nat) (i : Nat) : List S65 := ((yss.getD i []).drop (pos.getD i 0)).map e65
theorem restO_length (yss : List (List S64)) (pos : List Nat) (i : Nat) : (restO yss pos i).length = (yss.getD i []).length - pos.getD i 0 := by simp [restO]
theorem restO_av {yss : List (List S64)} {pos : List Nat} {i : Nat} (h : Av yss pos i) : restO yss pos i = e65 (entO yss pos i) :: (restO yss pos i).drop 1 := by
 unfold restO entO
 rw [drop_cons _ _ zz64 h.2]; simp
theorem restO_step {yss : List (List S64)} {pos : List Nat} {i : Nat} (hi : i < pos.length) : restO yss (stepP pos i) i = (restO yss pos i).drop 1 := by
 unfold restO stepP
 rw [getD_set, if_pos ⟨rfl, hi⟩, ← List.map_drop, List.drop_drop]
theorem restO_other {yss : List (List S64)} {pos : List Nat} {i j : Nat} (h : j ≠ i) : restO yss (stepP pos i) j = restO yss pos j := by
 unfold restO stepP
 rw [getD_set, if_neg (fun q => h q.1.symm)]
structure Tl (w w0 : World) (gt : Nat) (AO : Option Addr) (cO g : Nat) (A : Option Addr) (ca : Nat) (ats : List Int) (gp cp : Nat) (pls : List Int) (gd cd : Nat) (dus : List Int) (ss : List (Option Addr × Nat × Nat)) (yss : List (List S64)) (pos : List Nat) : Prop where
 blk : w.heap[gt]? = some (.cells #[.slice AO ss.length cO, .pointer (some ⟨g, 0, none⟩)] 123 (0, 0))
 ro : KS.R 31 w w0.heap.size (fun k => k ≠ gt ∧ ¬ heapS g A gp gd k) (.slice AO ss.length cO) ss
 hp : HOK w w0.heap.size g A ca ats gp cp pls gd cd dus
 l1 : ss.length = yss.length
 l2 : pls.length = yss.length
 l3 : pos.length = yss.length
 l4 : ats.length ≤ yss.length
 rd : ∀ i, i < yss.length → (ss.getD i dS).2.1 = (restO yss pos i).length ∧ (restO yss pos i).length ≤ (ss.getD i dS).2.2 ∧ k65.C w0 (ss.getD i dS).1 (restO yss pos i).length (restO yss pos i)
 nh : ¬ heapS g A gp gd gt
 lo : w0.heap.size ≤ gt
 be : Below w0.heap.size w0 w
def Lk (yss : List (List S64)) (pos : List Nat) (pls dus : List Int) (x : Nat) : Prop := ∀ i, i < yss.length → i ≠ x → (pls.getD i 0 = -1 ↔ ¬ Av yss pos i) ∧ (Av yss pos i → dus.getD i 0 = (entO yss pos i).f0)
end Go.Proofs.Ytalimpniimgheaa.Fn
namespace Go.Proofs.Ytalimpniimgheaa.Fn
open Go.RowKit Go.Proofs.YtalimpniimgheaaW.PrintWords Go.Proofs.YtalimpniimgheaaW.PrintLast Go.Proofs.YtalimpniimgheaaW.PrintMore
set_option linter.unusedVariables false
set_option linter.unusedSimpArgs false
def mpush1T : Bool × List (List Nat × List Nat) := (true, [([], []), ([0], [0]), ([1], [1]), ([2], [2]), ([], []), ([], []), ([5], [5]), ([6], [6]), ([7], [7]), ([], []), ([8, 9], [8, 9]), ([10], [10]), ([11], [11]), ([12], [12]), ([13], [13]), ([3, 4, 14], [3, 4, 14])])
def mpush1B : List Nat := [0, 1, 3, 7, 0, 0, 32, 96, 224, 0, 992, 2016, 4064, 8160, 16352, 32767]
theorem mpush1_tab : rtab .any (opsOf Try.f80 1) = mpush1T := by kernel_rfl
theorem mpush1_bits : waitsOk mpush1T.2 mpush1B = true := by kernel_rfl
theorem IsHeap.chg {w w1 : World} {base g ca gp cp gd cd : Nat} {A : Option Addr} {ats pls dus : List Int} {S : Nat → Prop} (h : IsHeap w base g A ca ats gp cp pls gd cd dus) (hk : Chg S w w1) (hne : ∀ k, heapS g A gp gd k → ¬ S k) : IsHeap w1 base g A ca ats gp cp pls gd cd dus :=
  ⟨blk_chg h.blk hk (hne _ (.inl rfl)), h.lo, h.n1, h.n2, h.n3,
   Kd.R_mono (R_chg (Kd.R_tight2 rfl h.ra) hk (fun k hk => hne k (.inr (.inl (own_some hk.1.symm))))) (fun _ h => h.2),
   R_chg h.rp hk (fun k hk => hne k (.inr (.inr (.inl hk)))), R_chg h.rd hk (fun k hk => hne k (.inr (.inr (.inr hk))))⟩
section
variable {w w0 : World} {gt cO g ca gp cp gd cd : Nat} {AO A : Option Addr} {ats pls dus : List Int} {ss : List (Option Addr × Nat × Nat)} {yss : List (List S64)} {pos : List Nat}
theorem Tl.put (T : Tl w w0 gt AO cO g A ca ats gp cp pls gd cd dus ss yss pos) {w1 : World} {A5 : Option Addr} {ca5 : Nat} {ats5 pls5 dus5 : List Int} (h5 : HOK w1 w0.heap.size g A5 ca5 ats5 gp cp pls5 gd cd dus5) (hc : Chg (heapS g A gp gd) w w1) (na : NewA w.heap.size A A5) (hl : pls5.length = pls.length) (ha : ats5.length ≤ yss.length) : Tl w1 w0 gt AO cO g A5 ca5 ats5 gp cp pls5 gd cd dus5 ss yss pos := by
  refine ⟨blk_chg T.blk hc T.nh, ?_, h5, T.l1, hl.trans T.l2, T.l3, ha, T.rd, fun hs => ?_, T.lo, ?_⟩
  · refine Kd.R_reok rfl (R_chg (Kd.R_tight2 rfl T.ro) hc (fun k hk hs => hk.2.2 hs)) (fun k hk => ⟨(T.ro.1 k hk).1, fun hs => ?_⟩)
    rcases heapS_new na hs with h | h
    · exact (T.ro.1 k hk).2 h
    · have := Kd.R_lt T.ro k hk; omega
  · rcases heapS_new na hs with h | h
    · exact T.nh h
    · have := blk_lt T.blk; omega
  · exact ((Chg.of_belowB T.be).then_ hc (fun k hk => .inl (T.hp.is.low k hk).1)).to_below (fun _ h => h) (Nat.le_refl _)
theorem Tl.elem (T : Tl w w0 gt AO cO g A ca ats gp cp pls gd cd dus ss yss pos) {x : Nat} (hx : x < yss.length) : ∃ go, AO = some ⟨go, 0, none⟩ ∧ w.cell? ⟨go, x, none⟩ = some (.slice (ss.getD x dS).1 (ss.getD x dS).2.1 (ss.getD x dS).2.2) ∧ w.frozen? ⟨go, x, none⟩ = false := by
  have hl := T.l1
  obtain ⟨go, cap, hv, _⟩ := Kd.R_form T.ro (by omega)
  injection hv with hv1 _ _
  subst hv1
  have h := Kd.R_celln (enc := fun s : Option Addr × Nat × Nat => Value.slice s.1 s.2.1 s.2.2) (h1 := fun _ => rfl) dS T.ro (x : Int) (by omega) (by omega)
  rw [Int.toNat_natCast] at h
  unfold rdOf at h
  rw [Int.toNat_natCast] at h
  exact ⟨go, rfl, h.1, h.2⟩
def LkP (yss : List (List S64)) (pos : List Nat) (pls dus : List Int) (P : Nat → Prop) : Prop := ∀ i, i < yss.length → P i → (pls.getD i 0 = -1 ↔ ¬ Av yss pos i) ∧ (Av yss pos i → dus.getD i 0 = (entO yss pos i).f0)
theorem Tl.below (T : Tl w w0 gt AO cO g A ca ats gp cp pls gd cd dus ss yss pos) {w1 : World} (hb : Below w.heap.size w w1) : Tl w1 w0 gt AO cO g A ca ats gp cp pls gd cd dus ss yss pos :=
  ⟨blk_below T.blk hb, Kd.R_below T.ro hb, ⟨T.hp.is.below hb, T.hp.li, T.hp.he⟩, T.l1, T.l2, T.l3, T.l4, T.rd, T.nh, T.lo, ((Chg.of_belowB T.be).below hb).to_below (fun _ h => h) (Nat.le_refl _)⟩
theorem Tl.far (T : Tl w w0 gt AO cO g A ca ats gp cp pls gd cd dus ss yss pos) {b i : Nat} (v : Value) (h0 : w0.heap.size ≤ b) (h1 : b ≠ gt) (h2 : ¬ heapS g A gp gd b) (h3 : ¬ (Value.slice AO ss.length cO).ownBlock = some b) : Tl (w.setCell ⟨b, i, none⟩ v) w0 gt AO cO g A ca ats gp cp pls gd cd dus ss yss pos := by
  have hc : Chg (fun k => k = b) w (w.setCell ⟨b, i, none⟩ v) := (Chg.refl (fun k => k = b) w).set_ (p := ⟨b, i, none⟩) (.inl rfl) v
  have hr : ∀ (α : Type) (d : Kd α) (e base : Nat) (ok : Nat → Prop) (u : Value) (xs : List α), d.E = [] → d.R e w base ok u xs → (¬ u.ownBlock = some b) → d.R e (w.setCell ⟨b, i, none⟩ v) base ok u xs := fun α d e base ok u xs hE h hn => Kd.R_mono (R_chg (Kd.R_tight2 hE h) hc (fun k hk e => hn (by rw [← e]; exact hk.1.symm))) (fun _ h => h.2)
  have hi := T.hp.is
  have ob : ∀ {A : Option Addr} {n c : Nat}, (Value.slice A n c).ownBlock = some b → ∃ a, A = some a ∧ b = a.block := fun h => own_some h
  refine ⟨blk_chg T.blk hc (fun e => h1 e.symm), hr _ _ _ _ _ _ _ rfl T.ro h3, ⟨⟨blk_chg hi.blk hc (fun e => h2 (.inl e.symm)), hi.lo, hi.n1, hi.n2, hi.n3, hr _ _ _ _ _ _ _ rfl hi.ra (fun e => h2 (.inr (.inl (ob e)))), hr _ _ _ _ _ _ _ rfl hi.rp (fun e => h2 (.inr (.inr (.inl (Option.some.inj e).symm)))), hr _ _ _ _ _ _ _ rfl hi.rd (fun e => h2 (.inr (.inr (.inr (Option.some.inj e).symm))))⟩, T.hp.li, T.hp.he⟩, T.l1, T.l2, T.l3, T.l4, T.rd, T.nh, T.lo, ?_⟩
  exact ((Chg.of_belowB T.be).set_ (p := ⟨b, i, none⟩) (.inl h0) v).to_below (fun _ h => h) (Nat.le_refl _)
theorem Tl.chg (T : Tl w w0 gt AO cO g A ca ats gp cp pls gd cd dus ss yss pos) {w1 : World} {S : Nat → Prop} (hc : Chg S w w1) (hS : ∀ k, S k → w0.heap.size ≤ k ∧ k ≠ gt ∧ ¬ heapS g A gp gd k ∧ ¬ (Value.slice AO ss.length cO).ownBlock = some k) : Tl w1 w0 gt AO cO g A ca ats gp cp pls gd cd dus ss yss pos :=
  ⟨blk_chg T.blk hc (fun e => (hS _ e).2.1 rfl), Kd.R_mono (R_chg (Kd.R_tight2 rfl T.ro) hc (fun k hk e => (hS k e).2.2.2 hk.1.symm)) (fun _ h => h.2), ⟨T.hp.is.chg hc (fun k hk e => (hS k e).2.2.1 hk), T.hp.li, T.hp.he⟩, T.l1, T.l2, T.l3, T.l4, T.rd, T.nh, T.lo, ((Chg.of_belowB T.be).then_ hc (fun k hk => .inl (hS k hk).1)).to_below (fun _ h => h) (Nat.le_refl _)⟩
theorem Tl.step (T : Tl w w0 gt AO cO g A ca ats gp cp pls gd cd dus ss yss pos) {x go : Nat} (hx : x < yss.length) (ho : AO = some ⟨go, 0, none⟩) (s : Option Addr × Nat × Nat) (hs : s.2.1 = (restO yss (stepP pos x) x).length ∧ (restO yss (stepP pos x) x).length ≤ s.2.2 ∧ k65.C w0 s.1 (restO yss (stepP pos x) x).length (restO yss (stepP pos x) x)) : Tl (w.setCell ⟨go, x, none⟩ (.slice s.1 s.2.1 s.2.2)) w0 gt AO cO g A ca ats gp cp pls gd cd dus (ss.set x s) yss (stepP pos x) := by
  subst ho
  have hg := T.ro.1 go rfl
  have hb := Kd.R_base T.ro go rfl
  have hc : Chg (fun k => k = go) w (w.setCell ⟨go, x, none⟩ (.slice s.1 s.2.1 s.2.2)) := (Chg.refl (fun k => k = go) w).set_ (p := ⟨go, x, none⟩) (.inl rfl) _
  have hi := T.hp.is
  have hp := Kd.R_putn (enc := fun s : Option Addr × Nat × Nat => Value.slice s.1 s.2.1 s.2.2) (h1 := fun _ => rfl) T.ro (x : Int) s
  rw [Int.toNat_natCast] at hp
  refine ⟨?_, ?_, ⟨hi.chg hc (fun k hk e => hg.2 (by rw [← e]; exact hk)), T.hp.li, T.hp.he⟩, by rw [List.length_set]; exact T.l1, T.l2, by rw [stepP_length]; exact T.l3, T.l4, fun i hi => ?_, T.nh, T.lo, ?_⟩
  · rw [List.length_set]; exact blk_chg T.blk hc (fun e => hg.1 e.symm)
  · rw [List.length_set]; exact hp
  · rw [getD_set]
    by_cases e : x = i
    · subst e
      rw [if_pos ⟨rfl, by have := T.l1; omega⟩]; exact hs
    · rw [if_neg (fun q => e q.1), restO_other (fun q => e q.symm)]; exact T.rd i hi
  · exact ((Chg.of_belowB T.be).set_ (p := ⟨go, x, none⟩) (.inl hb) _).to_below (fun _ h => h) (Nat.le_refl _)
set_option maxHeartbeats 8000000 in
set_option maxRecDepth 100000 in
theorem push_calls (T : Tl w w0 gt AO cO g A ca ats gp cp pls gd cd dus ss yss pos) (x : Nat) (hx : x < yss.length) (hy : yss.length ≤ 64) {P : Nat → Prop} (L : LkP yss pos pls dus P) (hP : ∀ i, P i → i ≠ x) (hn : pls.getD x 0 = -1) (ha : ats.length < yss.length) :
    Calls Try.prog 80 #[.pointer (some ⟨gt, 0, none⟩), .int .i64 x] w fun e w' => e = .returned (.tuple #[]) ∧ ∃ A' ca' ats' pls' dus', Tl w' w0 gt AO cO g A' ca' ats' gp cp pls' gd cd dus' ss yss pos ∧ LkP yss pos pls' dus' (fun i => P i ∨ i = x) ∧ ats'.length ≤ ats.length + 1 ∧ Chg (heapS g A gp gd) w w' ∧ NewA w.heap.size A A' ∧ ∀ k, k < yss.length → k ≠ x → (pls'.getD k 0 = -1 ↔ pls.getD k 0 = -1) := by
  obtain ⟨go, rfl, hel, _⟩ := T.elem hx
  have hrd := T.rd x hx
  have hx0 := (blk_cell T.blk 0).trans rfl
  have hx1 := (blk_cell T.blk 1).trans rfl
  have p0 : (0 ≤ (x : Int)) = True := eq_true (by omega)
  have p1 : ((x : Int) < (ss.length : Int)) = True := eq_true (by have := T.l1; omega)
  have TT := asd T
  have HX : Aside0 (x < pls.length) := ⟨by have := T.l2; omega⟩
  by_cases hav : Av yss pos x
  · have hrl := restO_length yss pos x
    obtain ⟨m, hm⟩ : ∃ m, (restO yss pos x).length = m + 1 := ⟨(restO yss pos x).length - 1, by have := hav.2; omega⟩
    rw [hm] at hrd
    obtain ⟨h1, h2, h3⟩ := hrd
    obtain ⟨ad, hae, htm0, _⟩ := at_T65 (Kd.C_below h3 T.be) 0 (by omega) (by omega)
    have hval : (rd_T65 (restO yss pos x) 0).f0 = (entO yss pos x).f0 := by
      rw [restO_av hav]; rfl
    rw [hval] at htm0
    rw [h1, hae] at hel
    have htm2 : w.cell? ad = some (.int .i64 (entO yss pos x).f0) := by
      have e : ad.add ((0 : Int).toNat * 4) = ad := by cases ad; rfl
      rwa [e] at htm0
    generalize htt : (entO yss pos x).f0 = tt at htm2
    have htm := htm2
    generalize (ss.getD x dS).2.2 = cx at h2 hel
    have d0 : decide ((0 : Int) < ((m + 1 : Nat) : Int)) = true := decide_eq_true (by omega)
    have d1 : decide (0 < m + 1) = true := decide_eq_true (by omega)
    have p2 : ((0 : Int) < ((m + 1 : Nat) : Int)) = True := eq_true (by omega)
    have HPN := asd hn
    have HAL : Aside0 (ats.length < 5000) := ⟨by omega⟩
    have HAN := asd ha
    have HH := asd T.hp.is
    have HLI := asd T.hp.li
    have HHE := asd T.hp.he
    have LL := asd L
    have HTT := asd htt
    have HAV := asd hav
    have HXX := asd hx
    generalize hnn : ss.length = n at hx0 p1
    clear htm0 htm2 hval h1 h2 h3 hae hn ha L hav htt hrl hm hx hy T hnn
    go_enter Try.func80, Try.ntmps80
    go_wp2
    refine start_ (n := 16) (S := fun w' => w'.cell? ⟨gt, 1, none⟩ = some (.pointer (some ⟨g, 0, none⟩)) ∧ w'.cell? ⟨gt, 0, none⟩ = some (.slice (some ⟨go, 0, none⟩) n cO) ∧ w'.cell? ⟨go, x, none⟩ = some (.slice (some ad) (m + 1) cx) ∧ w'.cell? ad = some (.int .i64 tt)) (ds := [15]) #[false, false, false, false, false, false, false, false, false, false, false, false, false, false, false, false] (by kernel_rfl) rfl rfl ⟨hx1, hx0, hel, htm⟩ (fun hHeld => ?_); refine with_tabW mpush1_tab mpush1_bits (fun HT_ HW_ => ?_)
    have HSd := asd (HH.out.below (below_drew1 (Below.refl _ _)))
    have HCd := asd ((Chg.refl (heapS g A gp gd) w).drew)
    clear hx1 hx0 hel htm
    generalize (World.drew _) = wd at HSd HCd hHeld ⊢
    refine pure_ (i := 0) (N := (some 13)) (v := ?_) (a' := ?_) #[true, false, false, false, false, false, false, false, false, false, false, false, false, false, false, false] rfl rfl (any_of HT_.out (by kernel_rfl)) (fun _ _ _ h => h) (Or.inl ⟨by rfl, ?_⟩) ?_ ?_
    rotate_left
    · intro w'
      go_simp
      with_reducible rfl
    rotate_left
    · simp only [Act.put, sB, i64_w, i32_w]
      rfl
    refine pure_ (i := 1) (N := (some 14)) (v := ?_) (a' := ?_) #[true, true, false, false, false, false, false, false, false, false, false, false, false, false, false, false] rfl rfl (any_of HT_.out (by kernel_rfl)) (fun _ _ _ h => h) (Or.inl ⟨by rfl, ?_⟩) ?_ ?_
    rotate_left
    · intro w'
      go_simp
      with_reducible rfl
    rotate_left
    · simp only [Act.put, sB, i64_w, i32_w]
      rfl
    refine pure_ (i := 2) (N := (some 15)) (v := ?_) (a' := ?_) #[true, true, true, false, false, false, false, false, false, false, false, false, false, false, false, false] rfl rfl (any_of HT_.out (by kernel_rfl)) (fun _ _ _ h => h) (Or.inl ⟨by rfl, ?_⟩) ?_ ?_
    rotate_left
    · intro w'
      go_simp
      with_reducible rfl
    rotate_left
    · simp only [Act.put, sB, i64_w, i32_w]
      rfl
    refine take_ (i := 3) (N := (some 16)) (v := ?_) (a' := ?_) #[true, true, true, true, false, false, false, false, false, false, false, false, false, false, false, false] rfl rfl (take_ofW HT_.out HW_.out (by kernel_rfl)) (fun _ _ _ h => h) (Or.inl ⟨by rfl, ?_⟩) hHeld ?_ ?_
    rotate_left
    · rintro w' ⟨s0, s1, s2, s3⟩
      go_simp
      with_reducible rfl
    rotate_left
    · simp only [Act.put, sB, i64_w, i32_w]
      rfl
    refine pure_ (i := 4) (N := (some 17)) (v := ?_) (a' := ?_) #[true, true, true, true, true, false, false, false, false, false, false, false, false, false, false, false] rfl rfl (any_of HT_.out (by kernel_rfl)) (fun _ _ _ h => h) (Or.inl ⟨by rfl, ?_⟩) ?_ ?_
    rotate_left
    · intro w'
      go_simp
      with_reducible rfl
    rotate_left
    · simp only [Act.put, sB, i64_w, i32_w]
      rfl
    refine pure_ (i := 5) (N := (some 18)) (v := ?_) (a' := ?_) #[true, true, true, true, true, true, false, false, false, false, false, false, false, false, false, false] rfl rfl (any_of HT_.out (by kernel_rfl)) (fun _ _ _ h => h) (Or.inl ⟨by rfl, ?_⟩) ?_ ?_
    rotate_left
    · intro w'
      go_simp
      with_reducible rfl
    rotate_left
    · simp only [Act.put, sB, i64_w, i32_w]
      rfl
    refine pure_ (i := 6) (N := (some 19)) (v := ?_) (a' := ?_) #[true, true, true, true, true, true, true, false, false, false, false, false, false, false, false, false] rfl rfl (any_of HT_.out (by kernel_rfl)) (fun _ _ _ h => h) (Or.inl ⟨by rfl, ?_⟩) ?_ ?_
    rotate_left
    · intro w'
      go_simp
      with_reducible rfl
    rotate_left
    · simp only [Act.put, sB, i64_w, i32_w]
      rfl
    refine pure_ (i := 7) (N := (some 20)) (v := ?_) (a' := ?_) #[true, true, true, true, true, true, true, true, false, false, false, false, false, false, false, false] rfl rfl (any_of HT_.out (by kernel_rfl)) (fun _ _ _ h => h) (Or.inl ⟨by rfl, ?_⟩) ?_ ?_
    rotate_left
    · intro w'
      go_simp
      with_reducible rfl
    rotate_left
    · simp only [Act.put, sB, i64_w, i32_w]
      rfl
    refine take_ (i := 8) (N := (some 21)) (v := ?_) (a' := ?_) #[true, true, true, true, true, true, true, true, true, false, false, false, false, false, false, false] rfl rfl (take_ofW HT_.out HW_.out (by kernel_rfl)) (fun _ _ _ h => h) (Or.inl ⟨by rfl, ?_⟩) hHeld ?_ ?_
    rotate_left
    · rintro w' ⟨s0, s1, s2, s3⟩
      go_simp
      with_reducible rfl
    rotate_left
    · simp only [Act.put, sB, i64_w, i32_w]
      rfl
    refine pure_ (i := 9) (N := (some 22)) (v := ?_) (a' := ?_) #[true, true, true, true, true, true, true, true, true, true, false, false, false, false, false, false] rfl rfl (any_of HT_.out (by kernel_rfl)) (fun _ _ _ h => h) (Or.inl ⟨by rfl, ?_⟩) ?_ ?_
    rotate_left
    · intro w'
      go_simp
      with_reducible rfl
    rotate_left
    · simp only [Act.put, sB, i64_w, i32_w]
      rfl
    refine pure_ (i := 10) (N := (some 23)) (v := ?_) (a' := ?_) #[true, true, true, true, true, true, true, true, true, true, true, false, false, false, false, false] rfl rfl (any_of HT_.out (by kernel_rfl)) (fun _ _ _ h => h) (Or.inl ⟨by rfl, ?_⟩) ?_ ?_
    rotate_left
    · intro w'
      go_simp
      with_reducible rfl
    rotate_left
    · simp only [Act.put, sB, i64_w, i32_w]
      rfl
    refine take_ (i := 11) (N := (some 24)) (v := ?_) (a' := ?_) #[true, true, true, true, true, true, true, true, true, true, true, true, false, false, false, false] rfl rfl (take_ofW HT_.out HW_.out (by kernel_rfl)) (fun _ _ _ h => h) (Or.inl ⟨by rfl, ?_⟩) hHeld ?_ ?_
    rotate_left
    · rintro w' ⟨s0, s1, s2, s3⟩
      go_simp
      with_reducible rfl
    rotate_left
    · simp only [Act.put, sB, i64_w, i32_w]
      rfl
    refine pure_ (i := 12) (N := (some 25)) (v := ?_) (a' := ?_) #[true, true, true, true, true, true, true, true, true, true, true, true, true, false, false, false] rfl rfl (any_of HT_.out (by kernel_rfl)) (fun _ _ _ h => h) (Or.inl ⟨by rfl, ?_⟩) ?_ ?_
    rotate_left
    · intro w'
      go_simp
      with_reducible rfl
    rotate_left
    · simp only [Act.put, sB, i64_w, i32_w]
      rfl
    refine pure_ (i := 13) (N := (some 26)) (v := ?_) (a' := ?_) #[true, true, true, true, true, true, true, true, true, true, true, true, true, true, false, false] rfl rfl (any_of HT_.out (by kernel_rfl)) (fun _ _ _ h => h) (Or.inl ⟨by rfl, ?_⟩) ?_ ?_
    rotate_left
    · intro w'
      go_simp
      with_reducible rfl
    rotate_left
    · simp only [Act.put, sB, i64_w, i32_w]
      rfl
    refine take_ (i := 14) (N := (some 27)) (v := ?_) (a' := ?_) #[true, true, true, true, true, true, true, true, true, true, true, true, true, true, true, false] rfl rfl (take_ofW HT_.out HW_.out (by kernel_rfl)) (fun _ _ _ h => h) (Or.inl ⟨by rfl, ?_⟩) hHeld ?_ ?_
    rotate_left
    · rintro w' ⟨s0, s1, s2, s3⟩
      go_simp
      with_reducible rfl
    rotate_left
    · simp only [Act.put, sB, i64_w, i32_w]
      rfl
    refine last_ (i := 15) (N := (some 28)) #[true, true, true, true, true, true, true, true, true, true, true, true, true, true, true, true] rfl rfl (one_of HT_.out (by kernel_rfl)) (by decide) (fun K hK => ?_)
    refine goes_ Try.func112 (by kernel_rfl) rfl #[.pointer (some ⟨g, 0, none⟩), .int .i64 (x : Int), .int .i64 tt] (by rfl) rfl rfl (by simp [Act.eval]) ?_
    refine (put_calls (⟨HSd.out, HLI.out, HHE.out⟩ : HOK wd w0.heap.size g A ca ats gp cp pls gd cd dus) (x : Int) tt (by omega) (by have := HX.out; omega) (by rw [Int.toNat_natCast]; exact HPN.out) HAL.out).mono ?_
    rintro e w2 ⟨rfl, ⟨A5, ca5, ats5, pls5, h5, hs5, hl5, hn5, na5⟩, hc5⟩
    have H5 := asd h5
    have HS5 := asd hs5
    have HN5 := asd (And.intro hl5 hn5)
    have NA5 := asd na5
    have HC5 := asd (HCd.out.trans hc5)
    have SZ5 := asd HCd.out.size
    clear h5 hs5 hl5 hn5 na5 hc5 HCd HSd
    refine ⟨_, rfl, ?_⟩
    refine hK.out _ _ ?_
    clear hK K
    refine norm_ (a' := ?_) ?_ ?_
    rotate_left
    · show Act.put _ (some 28) _ = _
      simp only [Act.put, sB, i64_w, i32_w]
      rfl
    refine done_ (done_of HT_.out (by kernel_rfl)) ?_
    try go_wp2
    go_end0
    refine ⟨rfl, A5, ca5, ats5, pls5, dus.set x tt, TT.out.put H5.out HC5.out (fun a' ha' => (NA5.out a' ha').imp (fun q => q) (fun q => Nat.le_trans SZ5.out q)) HN5.out.1 (by have := HN5.out.2; have := HAN.out; omega), fun i hi hpi => ?_, by have := HN5.out.2; omega, HC5.out, fun a' ha' => (NA5.out a' ha').imp (fun q => q) (fun q => Nat.le_trans SZ5.out q), fun k hk hne => ?_⟩
    rotate_left
    · have hs := HS5.out k (by rw [List.length_set, TT.out.l2]; exact hk)
      rw [Int.toNat_natCast, getD_set, if_neg (fun q => hne q.1.symm)] at hs
      exact hs
    have hs := HS5.out i (by rw [List.length_set, TT.out.l2]; exact hi)
    rw [Int.toNat_natCast] at hs
    have hdl := TT.out.hp.li.len
    have hpl := TT.out.l2
    by_cases e : i = x
    · subst e
      rw [getD_set, if_pos ⟨rfl, HX.out⟩] at hs
      refine ⟨by rw [hs]; exact ⟨fun q => absurd q (by omega), fun q => absurd HAV.out q⟩, fun _ => ?_⟩
      rw [getD_set, if_pos ⟨rfl, by omega⟩]; exact HTT.out.symm
    · have hl := LL.out i hi (hpi.resolve_right e)
      rw [getD_set, if_neg (fun q => e q.1.symm)] at hs
      rw [getD_set, if_neg (fun q => e q.1.symm), hs]
      exact hl
  · have hrl := restO_length yss pos x
    have hz : (restO yss pos x).length = 0 := by
      by_cases q : pos.getD x 0 < (yss.getD x []).length
      · exact absurd ⟨hx, q⟩ hav
      · omega
    rw [hz] at hrd
    rw [hrd.1] at hel
    have LL : Aside0 (LkP yss pos pls dus (fun i => P i ∨ i = x)) := ⟨fun i hi hpi => by
      by_cases e : i = x
      · subst e; exact ⟨⟨fun _ => hav, fun _ => hn⟩, fun q => absurd q hav⟩
      · exact L i hi (hpi.resolve_right e)⟩
    clear hrd hrl hz hn ha L hav hy hx T
    go_enter Try.func80, Try.ntmps80
    go_wp2
    go_end0
    exact ⟨rfl, A, ca, ats, pls, dus, TT.out, LL.out, by omega, Chg.refl _ _, NewA.refl _ _, fun _ _ _ => Iff.rfl⟩
end
end Go.Proofs.Ytalimpniimgheaa.Fn
namespace Go.Proofs.Ytalimpniimgheaa.Fn
open Go.RowKit Go.Proofs.YtalimpniimgheaaW.PrintWords Go.Proofs.YtalimpniimgheaaW.PrintLast Go.Proofs.YtalimpniimgheaaW.PrintMore
set_option linter.unusedVariables false
set_option linter.unusedSimpArgs false
def mpop5T : Bool × List (List Nat × List Nat) := (true, [([], []), ([0], [0]), ([1], [1]), ([2], [2]), ([], []), ([], []), ([5], [5]), ([6], [6]), ([7], [7]), ([], []), ([8, 9], [8, 9]), ([10], [10]), ([11], [11]), ([3, 4, 0, 1, 2, 3, 4, 5, 6, 7, 8, 9, 10, 11, 12], [3, 4]), ([13, 12, 0, 1, 2, 3, 4, 5, 6, 7, 8, 9, 10, 11, 12], [12, 13])])
def mpop5B : List Nat := [0, 1, 3, 7, 0, 0, 32, 96, 224, 0, 992, 2016, 4064, 8191, 16383]
theorem mpop5_tab : rtab .any (opsOf Try.f81 5) = mpop5T := by kernel_rfl
theorem mpop5_bits : waitsOk mpop5T.2 mpop5B = true := by kernel_rfl
theorem results_row_tmp {P : Program} {fn : Func} {p u : Tmp} {ty : TypeId} (h : fn.results = #[.cell p ty, .tmp u]) (tmps : Array Value) (w : World) (g : Nat) (t : TypeId) (cs : Array Value) (fr : Nat × Nat) (d : TypeDesc)
  (hp : tmps.getD p undef = .pointer (some ⟨g, 0, none⟩)) (hg : w.heap[g]? = some (.cells cs t fr))
  (hu : P.underlying ty = some d) (hd : (match d with | .struct _ | .array _ _ => true | _ => false) = true) (hi : (P.info? ty).map (·.size) = some cs.size) (v : Value) (hv : tmps.getD u undef = v) :
  (results fn tmps).run P w = .ok (.tuple #[.agg cs, v]) w := by
 have hp' : tmps[p]?.getD undef = .pointer (some ⟨g, 0, none⟩) := by simpa using hp
 have hv' : tmps[u]?.getD undef = v := by simpa using hv
 simp [results, h, hp', hv', asAddr, run_loadVar_row w g t ty cs fr d hg hu hd hi]
section
variable {w w0 : World} {gt cO g ca gp cp gd cd : Nat} {AO A : Option Addr} {ats pls dus : List Int} {ss : List (Option Addr × Nat × Nat)} {yss : List (List S64)} {pos : List Nat}
theorem Tl.empty (T : Tl w w0 gt AO cO g A ca [] gp cp pls gd cd dus ss yss pos) (L : Lk yss pos pls dus yss.length) : ∀ i, ¬ Av yss pos i := fun i hi => by
 have h1 := L i hi.1 (by have := hi.1; omega)
 obtain ⟨k, hk, _⟩ := T.hp.li.placed (id := (i : Int)) (by omega) (by have := T.l2; have := hi.1; omega) (by rw [Int.toNat_natCast]; exact fun q => h1.1.1 q hi)
 simp at hk
set_option maxHeartbeats 8000000 in
set_option maxRecDepth 100000 in
theorem tpop_none (T : Tl w w0 gt AO cO g A ca [] gp cp pls gd cd dus ss yss pos) (L : Lk yss pos pls dus yss.length) :
  Calls Try.prog 81 #[.pointer (some ⟨gt, 0, none⟩)] w fun e w' => e = .returned (.tuple #[.agg #[.int .i64 0, .int .i64 0, .int .i64 0, .int .i64 0, .int .i64 0], .bool false]) ∧ Below w.heap.size w w' := by
 have hu67 := Try.underlying67
 have hu65 := Try.underlying65
 have hx1 := (blk_cell (blk_alloc T.blk (.cells #[.int .i64 0, .int .i64 0, .int .i64 0, .int .i64 0, .int .i64 0] 67)) 1).trans rfl
 have PN := asd (pop_none (T.hp.is.below (below_alloc (Below.refl _ _) (.cells #[.int .i64 0, .int .i64 0, .int .i64 0, .int .i64 0, .int .i64 0] 67))))
 clear T L
 go_enter Try.func81, Try.ntmps81
 go_wp2_with (first | (go_at_call 113; refine PN.out.mono ?_; rintro e w1 ⟨rfl, rfl⟩))
 have hb := heap_alloc_new w (.cells #[.int .i64 0, .int .i64 0, .int .i64 0, .int .i64 0, .int .i64 0] 67)
 refine bodyPost_ret (results_row_tmp Try.results81 _ _ w.heap.size 67 #[.int .i64 0, .int .i64 0, .int .i64 0, .int .i64 0, .int .i64 0] (0, 0) _ rfl hb Try.underlying67 rfl (by kernel_rfl) (.bool false) rfl) rfl ?_
 exact ⟨rfl, below_alloc (Below.refl _ _) _⟩
theorem Lk.step (L : Lk yss pos pls dus yss.length) {x : Nat} (hl : pls.length = yss.length) {pls1 : List Int} (hs : SameIn (pls.set x (-1)) pls1) : Lk yss (stepP pos x) pls1 dus x := fun i hi hne => by
 have h := L i hi (by omega)
 have h1 := hs i (by rw [List.length_set]; omega)
 rw [getD_set, if_neg (fun q => hne q.1.symm)] at h1
 have hg : (stepP pos x).getD i 0 = pos.getD i 0 := by unfold stepP; rw [getD_set, if_neg (fun q => hne q.1.symm)]
 have ha : Av yss (stepP pos x) i ↔ Av yss pos i := by unfold Av; rw [hg]
 have he : entO yss (stepP pos x) i = entO yss pos i := by unfold entO; rw [hg]
 rw [h1, ha, he]
 exact h
theorem Tl.least (T : Tl w w0 gt AO cO g A ca ats gp cp pls gd cd dus ss yss pos) (L : Lk yss pos pls dus yss.length) {x : Int} (h0 : 0 ≤ x) (h1 : x < pls.length) (hn : pls.getD x.toNat 0 ≠ -1) (hle : ∀ y : Int, 0 ≤ y → y < pls.length → pls.getD y.toNat 0 ≠ -1 → leD dus x y) : Least yss pos x.toNat := by
 have l2 := T.l2
 have ax : Av yss pos x.toNat := by
  have h := (L x.toNat (by omega) (by omega)).1
  by_cases q : Av yss pos x.toNat
  ·exact q
  ·exact absurd (h.2 q) hn
 refine ⟨ax, fun j hj => ?_⟩
 have hlj := L j hj.1 (by have := hj.1; omega)
 have h := hle (j : Int) (by omega) (by have := hj.1; omega) (by rw [Int.toNat_natCast]; exact fun q => hlj.1.1 q hj)
 rw [le_iff, Int.toNat_natCast, hlj.2 hj, (L x.toNat (by omega) (by omega)).2 ax] at h
 omega
set_option maxHeartbeats 8000000 in
set_option maxRecDepth 100000 in
theorem tpop_calls (T : Tl w w0 gt AO cO g A ca ats gp cp pls gd cd dus ss yss pos) (L : Lk yss pos pls dus yss.length) (hy : yss.length ≤ 64) (hp : 0 < ats.length) :
  Calls Try.prog 81 #[.pointer (some ⟨gt, 0, none⟩)] w fun e w' => ∃ x : Nat, Least yss pos x ∧ e = .returned (.tuple #[.agg #[.int .i64 x, .int .i64 (entO yss pos x).f0, .int .i64 (entO yss pos x).f1, .int .i64 (entO yss pos x).f2, .int .i64 (entO yss pos x).f3], .bool true]) ∧ ∃ A' ca' ats' pls' dus' ss', Tl w' w0 gt AO cO g A' ca' ats' gp cp pls' gd cd dus' ss' yss (stepP pos x) ∧ Lk yss (stepP pos x) pls' dus' yss.length ∧ Chg (fun k => heapS g A gp gd k ∨ (Value.slice AO ss.length cO).ownBlock = some k) w w' ∧ NewA w.heap.size A A' := by
 have hu67 := Try.underlying67
 have hu65 := Try.underlying65
 have TA := asd (T.below (below_alloc (Below.refl _ _) (.cells #[.int .i64 0, .int .i64 0, .int .i64 0, .int .i64 0, .int .i64 0] 67)))
 have B2 := asd (heap_alloc_new w (.cells #[.int .i64 0, .int .i64 0, .int .i64 0, .int .i64 0, .int .i64 0] 67))
 have hx1 := (blk_cell TA.out.blk 1).trans rfl
 have AP : Aside0 (w.heap.size ≠ gt ∧ ¬ heapS g A gp gd w.heap.size ∧ ¬ (Value.slice AO ss.length cO).ownBlock = some w.heap.size ∧ w0.heap.size ≤ w.heap.size) := ⟨by have := blk_lt T.blk; omega, fun hs => by have := (T.hp.is.low _ hs).2; omega, fun h => by have := Kd.R_lt T.ro _ h; omega, T.be.size⟩
 have PN := asd (pop_calls TA.out.hp hp (by have := T.l4; omega))
 have LL := asd L
 have HY := asd hy
 have HP := asd hp
 have LT := asd (fun x h0 h1 hn hle => T.least L (x := x) h0 h1 hn hle)
 have L2 := asd T.l2
 have L4 := asd T.l4
 clear T L hy hp
 go_enter Try.func81, Try.ntmps81
 go_wp2_with fail
 refine PN.out.mono ?_
 rintro e w1 ⟨xi, he, ⟨hx0, hxl, hx2, hle⟩, ⟨ats1, pls1, h1, hs1, hl1, hn1⟩, hc1⟩
 have LE := asd (LT.out xi hx0 hxl hx2 hle)
 obtain ⟨x, rfl⟩ := Int.eq_ofNat_of_zero_le hx0
 rw [Int.toNat_natCast] at he LE hs1 hx2
 have he' : e = .returned (.tuple #[.int .i64 x, .int .i64 (entO yss pos x).f0, .bool true]) := by
  rw [he, (LL.out x LE.out.1.1 (by have := LE.out.1.1; omega)).2 LE.out.1]
 subst he'
 have T1 := asd (TA.out.put h1 hc1 (NewA.refl _ _) hl1 (by have := L4.out; omega))
 have LK1 := asd (LL.out.step L2.out hs1)
 have HN1 : Aside0 (ats1.length < yss.length) := ⟨by have := L4.out; omega⟩
 have HM1 : Aside0 (pls1.getD x 0 = -1) := ⟨(hs1 x (by rw [List.length_set]; have := L2.out; have := LE.out.1.1; omega)).2 (by rw [getD_set, if_pos ⟨rfl, by have := L2.out; have := LE.out.1.1; omega⟩])⟩
 have B21 := asd (blk_chg B2.out hc1 AP.out.2.1)
 have HC1 := asd (((Chg.refl (fun k => heapS g A gp gd k ∨ (Value.slice AO ss.length cO).ownBlock = some k) w).alloc (.cells #[.int .i64 0, .int .i64 0, .int .i64 0, .int .i64 0, .int .i64 0] 67)).trans (hc1.mono (fun k hk => .inl hk)))
 clear he hx0 hxl hx2 hle h1 hs1 hl1 hn1 hc1 hx1 PN LT TA
 obtain ⟨go, rfl, hel, hfr⟩ := T1.out.elem LE.out.1.1
 have hrd := T1.out.rd x LE.out.1.1
 have hrl := restO_length yss pos x
 obtain ⟨m, hm⟩ : ∃ m, (restO yss pos x).length = m + 1 := ⟨(restO yss pos x).length - 1, by have := LE.out.1.2; omega⟩
 obtain ⟨ad, hae, y0, y1, y2, y3⟩ := at_T65 (Kd.C_below hrd.2.2 T1.out.be) 0 (by omega) (by omega)
 have hval : rd_T65 (restO yss pos x) 0 = e65 (entO yss pos x) := by rw [restO_av LE.out.1]; rfl
 have eadd : ad.add ((0 : Int).toNat * 4) = ad := by cases ad; rfl
 rw [hval, eadd] at y0 y1 y2 y3
 have hx0 := (blk_cell T1.out.blk 0).trans rfl
 rw [hrd.1, hae, hm] at hel
 have CX := asd hrd
 generalize hcx : (ss.getD x dS).2.2 = cx at hel
 generalize hent : entO yss pos x = en at y0 y1 y2 y3 ⊢
 obtain ⟨f0, f1, f2, f3⟩ := en
 unfold e65 at y0 y1 y2 y3
 have p0 : (0 ≤ (x : Int)) = True := eq_true (by omega)
 have p1 : ((x : Int) < (ss.length : Int)) = True := eq_true (by have := T1.out.l1; have := LE.out.1.1; omega)
 have p2 : ((0 : Int) < ((m + 1 : Nat) : Int)) = True := eq_true (by omega)
 go_wp2
 have TB := asd (T1.out.below (below_alloc (Below.refl _ _) (.cells #[.int .i64 f0, .int .i64 f1, .int .i64 f2, .int .i64 f3] 65)))
 have B7 := asd (heap_alloc_new w1 (.cells #[.int .i64 f0, .int .i64 f1, .int .i64 f2, .int .i64 f3] 65))
 have B22 := asd (blk_alloc B21.out (.cells #[.int .i64 f0, .int .i64 f1, .int .i64 f2, .int .i64 f3] 65))
 have AP7 : Aside0 (w1.heap.size ≠ gt ∧ ¬ heapS g A gp gd w1.heap.size ∧ w1.heap.size ≠ go ∧ w.heap.size ≠ w1.heap.size) := ⟨by have := blk_lt T1.out.blk; omega, fun hs => by have := (T1.out.hp.is.low _ hs).2; omega, by have := Kd.R_lt T1.out.ro go rfl; omega, by have := blk_lt B21.out; omega⟩
 have HC3 := asd (HC1.out.alloc (.cells #[.int .i64 f0, .int .i64 f1, .int .i64 f2, .int .i64 f3] 65))
 clear HC1
 clear hx0 hel hfr y0 y1 y2 y3 B21 T1 hrl hval eadd
 generalize w1.heap.size = b7 at AP7 B7 ⊢
 generalize w1.alloc (.cells #[.int .i64 f0, .int .i64 f1, .int .i64 f2, .int .i64 f3] 65) = w3 at TB B7 B22 HC3 ⊢
 obtain ⟨i65, hi65, hz65⟩ := Option.map_eq_some_iff.1 info65
 obtain ⟨sA, hsA⟩ : ∃ sA, sA = (if cx = 1 then some ad else some (ad.add (1 * 4))) := ⟨_, rfl⟩
 have hcut : ∀ W : World, (Instr.slice 31 (.slice (some ad) (m + 1) cx) (some (.int .i64 1)) none none).run Try.prog W = .ok (.slice sA m (cx - 1)) W := by
  rw [hsA]
  exact cut_from (P := Try.prog) 31 65 .i64 Try.underlying31 hi65 4 (by simp only [Prod.mk.injEq] at hz65; exact hz65.2.1) (some ad) (m + 1) cx 1 (by omega) (by omega)
 have SS : Aside0 (m = (restO yss (stepP pos x) x).length ∧ (restO yss (stepP pos x) x).length ≤ cx - 1 ∧ k65.C w0 sA (restO yss (stepP pos x) x).length (restO yss (stepP pos x) x)) := ⟨by
  have hps := TB.out.l3
  have hst := restO_step (yss := yss) (pos := pos) (i := x) (by rw [hps]; exact LE.out.1.1)
  rw [hst]
  have hcc := CX.out.2.1
  rw [hcx] at hcc
  have hd := Kd.C_drop (c := cx) CX.out.2.2 (m := 1) (by omega) hcc
  rw [hae] at hd
  refine ⟨by rw [List.length_drop]; omega, by rw [List.length_drop]; omega, ?_⟩
  rw [hsA]
  exact hd⟩
 have HE : Aside0 (Value.slice (ss.getD x dS).1 (ss.getD x dS).2.1 (ss.getD x dS).2.2 = Value.slice (some ad) (m + 1) cx) := ⟨by rw [hrd.1, hae, hm, hcx]⟩
 clear hz65 hi65 hsA hcx CX hae hm hrd
 obtain ⟨go', hgo, hel, hfr⟩ := TB.out.elem LE.out.1.1
 obtain rfl : go = go' := by injection (Option.some.inj hgo)
 rw [HE.out] at hel
 clear hgo HE
 have hx0 := (blk_cell TB.out.blk 0).trans rfl
 generalize hnn : ss.length = n at hx0 p1 ⊢
 have HNN := asd hnn
 clear hnn
 refine start_ (n := 15) (S := fun w' => w'.cell? ⟨gt, 0, none⟩ = some (.slice (some ⟨go, 0, none⟩) n cO) ∧ w'.cell? ⟨go, x, none⟩ = some (.slice (some ad) (m + 1) cx)) (ds := [14]) #[false, false, false, false, false, false, false, false, false, false, false, false, false, false, false] (by kernel_rfl) rfl rfl ⟨hx0, hel⟩ (fun hHeld => ?_); refine with_tabW mpop5_tab mpop5_bits (fun HT_ HW_ => ?_)
 have TBd := asd (TB.out.below (below_drew1 (Below.refl _ _)))
 have B7d := asd (blk_below B7.out (below_drew1 (Below.refl _ _)))
 have B22d := asd (blk_below B22.out (below_drew1 (Below.refl _ _)))
 have HC3d := asd HC3.out.drew
 clear hx0 hel hfr TB B7 B22 HC3
 generalize (World.drew _) = wd at TBd B7d B22d HC3d hHeld ⊢
 refine pure_ (i := 0) (N := (some 29)) (v := ?_) (a' := ?_) #[true, false, false, false, false, false, false, false, false, false, false, false, false, false, false] rfl rfl (any_of HT_.out (by kernel_rfl)) (fun _ _ _ h => h) (Or.inl ⟨by rfl, ?_⟩) ?_ ?_
 rotate_left
 ·intro w'
  go_simp
  with_reducible rfl
 rotate_left
 ·simp only [Act.put, sB, i64_w, i32_w]
  rfl
 refine pure_ (i := 1) (N := (some 30)) (v := ?_) (a' := ?_) #[true, true, false, false, false, false, false, false, false, false, false, false, false, false, false] rfl rfl (any_of HT_.out (by kernel_rfl)) (fun _ _ _ h => h) (Or.inl ⟨by rfl, ?_⟩) ?_ ?_
 rotate_left
 ·intro w'
  go_simp
  with_reducible rfl
 rotate_left
 ·simp only [Act.put, sB, i64_w, i32_w]
  rfl
 refine pure_ (i := 2) (N := (some 31)) (v := ?_) (a' := ?_) #[true, true, true, false, false, false, false, false, false, false, false, false, false, false, false] rfl rfl (any_of HT_.out (by kernel_rfl)) (fun _ _ _ h => h) (Or.inl ⟨by rfl, ?_⟩) ?_ ?_
 rotate_left
 ·intro w'
  go_simp
  with_reducible rfl
 rotate_left
 ·simp only [Act.put, sB, i64_w, i32_w]
  rfl
 refine take_ (i := 3) (N := (some 32)) (v := ?_) (a' := ?_) #[true, true, true, true, false, false, false, false, false, false, false, false, false, false, false] rfl rfl (take_ofW HT_.out HW_.out (by kernel_rfl)) (fun _ _ _ h => h) (Or.inl ⟨by rfl, ?_⟩) hHeld ?_ ?_
 rotate_left
 ·rintro w' ⟨s0, s1⟩
  go_simp
  with_reducible rfl
 rotate_left
 ·simp only [Act.put, sB, i64_w, i32_w]
  rfl
 refine pure_ (i := 4) (N := (some 33)) (v := ?_) (a' := ?_) #[true, true, true, true, true, false, false, false, false, false, false, false, false, false, false] rfl rfl (any_of HT_.out (by kernel_rfl)) (fun _ _ _ h => h) (Or.inl ⟨by rfl, ?_⟩) ?_ ?_
 rotate_left
 ·intro w'
  go_simp
  with_reducible rfl
 rotate_left
 ·simp only [Act.put, sB, i64_w, i32_w]
  rfl
 refine pure_ (i := 5) (N := (some 34)) (v := ?_) (a' := ?_) #[true, true, true, true, true, true, false, false, false, false, false, false, false, false, false] rfl rfl (any_of HT_.out (by kernel_rfl)) (fun _ _ _ h => h) (Or.inl ⟨by rfl, ?_⟩) ?_ ?_
 rotate_left
 ·intro w'
  go_simp
  with_reducible rfl
 rotate_left
 ·simp only [Act.put, sB, i64_w, i32_w]
  rfl
 refine pure_ (i := 6) (N := (some 35)) (v := ?_) (a' := ?_) #[true, true, true, true, true, true, true, false, false, false, false, false, false, false, false] rfl rfl (any_of HT_.out (by kernel_rfl)) (fun _ _ _ h => h) (Or.inl ⟨by rfl, ?_⟩) ?_ ?_
 rotate_left
 ·intro w'
  go_simp
  with_reducible rfl
 rotate_left
 ·simp only [Act.put, sB, i64_w, i32_w]
  rfl
 refine pure_ (i := 7) (N := (some 36)) (v := ?_) (a' := ?_) #[true, true, true, true, true, true, true, true, false, false, false, false, false, false, false] rfl rfl (any_of HT_.out (by kernel_rfl)) (fun _ _ _ h => h) (Or.inl ⟨by rfl, ?_⟩) ?_ ?_
 rotate_left
 ·intro w'
  go_simp
  with_reducible rfl
 rotate_left
 ·simp only [Act.put, sB, i64_w, i32_w]
  rfl
 refine take_ (i := 8) (N := (some 37)) (v := ?_) (a' := ?_) #[true, true, true, true, true, true, true, true, true, false, false, false, false, false, false] rfl rfl (take_ofW HT_.out HW_.out (by kernel_rfl)) (fun _ _ _ h => h) (Or.inl ⟨by rfl, ?_⟩) hHeld ?_ ?_
 rotate_left
 ·rintro w' ⟨s0, s1⟩
  go_simp
  with_reducible rfl
 rotate_left
 ·simp only [Act.put, sB, i64_w, i32_w]
  rfl
 refine pure_ (i := 9) (N := (some 38)) (v := ?_) (a' := ?_) #[true, true, true, true, true, true, true, true, true, true, false, false, false, false, false] rfl rfl (any_of HT_.out (by kernel_rfl)) (fun _ _ _ h => h) (Or.inl ⟨by rfl, ?_⟩) ?_ ?_
 rotate_left
 ·intro w'
  go_simp
  with_reducible rfl
 rotate_left
 ·simp only [Act.put, sB, i64_w, i32_w]
  rfl
 refine pure_ (i := 10) (N := (some 39)) (v := ?_) (a' := ?_) #[true, true, true, true, true, true, true, true, true, true, true, false, false, false, false] rfl rfl (any_of HT_.out (by kernel_rfl)) (fun _ _ _ h => h) (Or.inl ⟨by rfl, ?_⟩) ?_ ?_
 rotate_left
 ·intro w'
  go_simp
  with_reducible rfl
 rotate_left
 ·simp only [Act.put, sB, i64_w, i32_w]
  rfl
 refine take_ (i := 11) (N := (some 40)) (v := ?_) (a' := ?_) #[true, true, true, true, true, true, true, true, true, true, true, true, false, false, false] rfl rfl (take_ofW HT_.out HW_.out (by kernel_rfl)) (fun _ _ _ h => h) (Or.inl ⟨by rfl, ?_⟩) hHeld ?_ ?_
 rotate_left
 ·rintro w' ⟨s0, s1⟩
  go_simp
  with_reducible rfl
 rotate_left
 ·simp only [Act.put, sB, i64_w, i32_w]
  rfl
 refine pure_ (i := 12) (N := (some 41)) (v := ?_) (a' := ?_) #[true, true, true, true, true, true, true, true, true, true, true, true, true, false, false] rfl rfl (any_of HT_.out (by kernel_rfl)) (fun _ _ _ h => h) (Or.inl ⟨by rfl, ?_⟩) ?_ ?_
 rotate_left
 ·intro w'
  go_simp
  with_reducible rfl
 rotate_left
 ·simp only [Act.put, sB, i64_w, i32_w]
  rfl
 refine pure_ (i := 13) (N := (some 42)) (v := ?_) (a' := ?_) #[true, true, true, true, true, true, true, true, true, true, true, true, true, true, false] rfl rfl (any_of HT_.out (by kernel_rfl)) (fun _ _ _ h => h) (Or.inl ⟨by rfl, ?_⟩) ?_ ?_
 rotate_left
 ·intro w'
  go_simp
  with_reducible rfl
 rotate_left
 ·simp only [Act.put, sB, i64_w, i32_w]
  rfl
 refine last_ (i := 14) (N := none) #[true, true, true, true, true, true, true, true, true, true, true, true, true, true, true] rfl rfl (one_of HT_.out (by kernel_rfl)) (by decide) (fun K hK => ?_)
 obtain ⟨go2, hgo2, hel2, hfr2⟩ := TBd.out.elem LE.out.1.1
 obtain rfl : go = go2 := by injection (Option.some.inj hgo2)
 clear hgo2
 refine skip_ (w1 := ?_) (by rfl) rfl ?_ ?_
 rotate_left
 ·go_simp
  rfl
 refine hK.out _ _ ?_
 clear hK K
 refine done_ (done_of HT_.out (by kernel_rfl)) ?_
 try go_wp2_with fail
 have HC4 := asd (HC3d.out.set_ (p := ⟨go, x, none⟩) (.inl (.inr rfl)) (.slice sA m (cx - 1)))
 have T4 := asd (TBd.out.step LE.out.1.1 rfl (sA, m, cx - 1) SS.out)
 have B74 := asd (blk_far B7d.out (p := ⟨go, x, none⟩) AP7.out.2.2.1 (.slice sA m (cx - 1)))
 have B24 := asd (blk_far B22d.out (p := ⟨go, x, none⟩) (fun e => AP.out.2.2.1 (by rw [e]; rfl)) (.slice sA m (cx - 1)))
 clear TBd B7d B22d HC3d hel2 hfr2 hcut SS hHeld
 generalize World.setCell wd ⟨go, x, none⟩ (.slice sA m (cx - 1)) = w4 at T4 B74 B24 HC4 ⊢
 refine (push_calls (P := fun i => i ≠ x) T4.out x LE.out.1.1 HY.out LK1.out (fun i h => h) HM1.out HN1.out).mono ?_
 rintro e w6 ⟨rfl, A6, ca6, ats6, pls6, dus6, h6, hl6, _, hc6, na6, _⟩
 have T6 := asd h6
 have LK6 : Aside0 (Lk yss (stepP pos x) pls6 dus6 yss.length) := ⟨fun i hi _ => hl6 i hi (by by_cases q : i = x; exact .inr q; exact .inl q)⟩
 have B76 := asd (blk_chg B74.out hc6 AP7.out.2.1)
 have B26 := asd (blk_chg B24.out hc6 AP.out.2.1)
 have AP6 : Aside0 (¬ heapS g A6 gp gd w.heap.size) := ⟨fun hs => by
  rcases heapS_new na6 hs with h | h
  ·exact AP.out.2.1 h
  ·have := blk_lt B24.out; omega⟩
 have LSL : Aside0 ((ss.set x (sA, m, cx - 1)).length = ss.length) := ⟨List.length_set ..⟩
 have HC6 := asd (HC4.out.trans (hc6.mono (fun k hk => .inl hk)))
 have NA6 : Aside0 (NewA w.heap.size A A6) := ⟨fun a' ha' => (na6 a' ha').imp (fun q => q) (fun q => Nat.le_trans HC4.out.size q)⟩
 clear h6 hl6 hc6 na6 HC4 T4 B74 B24 LK1 HM1 HN1
 have v0 := (blk_cell B76.out 0).trans rfl
 have v1 := (blk_cell B76.out 1).trans rfl
 have v2 := (blk_cell B76.out 2).trans rfl
 have v3 := (blk_cell B76.out 3).trans rfl
 have q0 := (blk_cell B26.out 0).trans rfl
 have q1 := (blk_cell B26.out 1).trans rfl
 have q2 := (blk_cell B26.out 2).trans rfl
 have q3 := (blk_cell B26.out 3).trans rfl
 have q4 := (blk_cell B26.out 4).trans rfl
 have r0 := blk_frozen B26.out 0
 have r1 := blk_frozen B26.out 1
 have r2 := blk_frozen B26.out 2
 have r3 := blk_frozen B26.out 3
 have r4 := blk_frozen B26.out 4
 go_wp2
 have F : ∀ (wq : World) (i : Nat) (v : Value), Tl wq w0 gt (some ⟨go, 0, none⟩) cO g A6 ca6 ats6 gp cp pls6 gd cd dus6 (ss.set x (sA, m, cx - 1)) yss (stepP pos x) → Tl (wq.setCell ⟨w.heap.size, i, none⟩ v) w0 gt (some ⟨go, 0, none⟩) cO g A6 ca6 ats6 gp cp pls6 gd cd dus6 (ss.set x (sA, m, cx - 1)) yss (stepP pos x) := fun wq i v T => T.far v AP.out.2.2.2 AP.out.1 AP6.out (fun e => AP.out.2.2.1 e)
 refine bodyPost_ret (results_row_tmp Try.results81 _ _ w.heap.size 67 #[.int .i64 x, .int .i64 f0, .int .i64 f1, .int .i64 f2, .int .i64 f3] (0, 0) _ rfl (blk_put (blk_put (blk_put (blk_put (blk_put B26.out 0 _ rfl) 1 _ rfl) 2 _ rfl) 3 _ rfl) 4 _ rfl) Try.underlying67 rfl (by kernel_rfl) (.bool true) rfl) rfl ?_
 exact ⟨x, LE.out, by rw [hent], A6, ca6, ats6, pls6, dus6, _, F _ _ _ (F _ _ _ (F _ _ _ (F _ _ _ (F _ _ _ T6.out)))), LK6.out, ((((HC6.out.set_ (p := ⟨w.heap.size, 0, none⟩) (.inr (Nat.le_refl _)) _).set_ (p := ⟨w.heap.size, 1, none⟩) (.inr (Nat.le_refl _)) _).set_ (p := ⟨w.heap.size, 2, none⟩) (.inr (Nat.le_refl _)) _).set_ (p := ⟨w.heap.size, 3, none⟩) (.inr (Nat.le_refl _)) _).set_ (p := ⟨w.heap.size, 4, none⟩) (.inr (Nat.le_refl _)) _, NA6.out⟩
end
end Go.Proofs.Ytalimpniimgheaa.Fn
namespace Go.Proofs.Ytalimpniimgheaa.Fn
open Go.RowKit Go.Proofs.YtalimpniimgheaaW.PrintWords Go.Proofs.YtalimpniimgheaaW.PrintLast Go.Proofs.YtalimpniimgheaaW.PrintMore
set_option linter.unusedVariables false
set_option linter.unusedSimpArgs false
set_option maxHeartbeats 8000000 in
set_option maxRecDepth 100000 in
theorem ksclone_calls (A0 : Option Addr) (c0 : Nat) (l0 : List (Option Addr × Nat × Nat)) (w : World) (hr0 : Kd.C KS w A0 l0.length l0) (hl : l0.length < 5864062014805) :
  Calls Try.prog 78 #[.slice A0 l0.length c0] w fun e w' => ∃ v0_ : Value, e = .returned (v0_) ∧ Kd.R KS 31 w' w.heap.size (fun _ => True) v0_ l0 ∧ Below w.heap.size w w' := by
 have HR0 := asd hr0
 have HC1 := asd hl
 clear hr0 hl
 have hq := fun (w : World) (a : Option Addr) n c => Lib.run_eql_slice_nil (P := Try.prog) w 58 31 a n c 0 0 Try.underlying58
 cases A0 with
 | none =>
  have e0 : l0 = [] := by
   rcases Nat.eq_zero_or_pos l0.length with h0 | h0
   ·exact List.eq_nil_of_length_eq_zero h0
   ·obtain ⟨ad, h, _⟩ := HR0.out.2.2 h0; cases h
  subst e0
  go_enter Try.func78, Try.ntmps78
  go_wp2
  go_ret
  exact ⟨_, rfl, Kd.R_nil _ _ _ _ _, Below.refl _ _⟩
 | some ad =>
  go_enter Try.func78, Try.ntmps78
  go_wp2_with (first | ((with_reducible refine gate_dst (N := 5) rfl ?_); refine Kd.R_lit KS _ 31 ?hg (N := 5) ?hd (xs := ([] : List (Option Addr × Nat × Nat))) (inner := []) (ok := fun _ => True) (okp := fun _ => True) ?hr ?hp (fun _ hk => hk) trivial (Below.refl _ _) (Nat.le_refl _) (by simp) ?_; (case hd => rfl); (case hg => rfl); (case hr => first | (go_simp; done) | (go_simp; rfl)); (case hp => exact (Reps.none _ _)); intro v1 w1 ho hb hg hat; have HO := asd ho; have HB := asd hb; clear ho hb hg hat) | ((with_reducible refine gate_builtin (b := .append) (xs := #[.tmp 5, .tmp 6]) rfl ?_); at_builtin; refine Kd.R_append_rows KS (w0 := w) w.heap.size rfl (.tmp 5) (.tmp 6) 58 31 (.slice none 0 0) 24 rfl Try.underlying58 info31 rfl (by decide) (by omega) v1 [] l0 _ _ _ (fun _ => True) (fun _ => False) rfl rfl ?aO ?aR (fun _ _ h => h) (fun _ h => h.elim) ?aF ?aB ?aS ?aL ?_; (case aR => exact Kd.C_below HR0.out HB.out); (case aB => exact HB.out); (case aF => exact (fun _ _ => trivial)); (case aO => exact HO.out); (case aS => exact HB.out.size); (case aL => have := HC1.out; simp only [List.length_nil]; omega); intro v2 w2 ho2 hb2 hg2 hat2; have HO2 := asd ho2; have HB2 := asd hb2; clear ho2 hb2 hg2 hat2))
  go_ret
  exact ⟨_, rfl, HO2.out, HB2.out⟩
theorem IsHeap.lower {w : World} {base base' g ca gp cp gd cd : Nat} {A : Option Addr} {ats pls dus : List Int} (h : IsHeap w base g A ca ats gp cp pls gd cd dus) (hb : base' ≤ base) : IsHeap w base' g A ca ats gp cp pls gd cd dus :=
 ⟨h.blk, Nat.le_trans hb h.lo, h.n1, h.n2, h.n3, Kd.R_lower h.ra hb, Kd.R_lower h.rp hb, Kd.R_lower h.rd hb⟩
def row67 (p : Nat × S64) : S67 := ⟨p.1, e65 p.2⟩
theorem take_map64 (yss : List (List S64)) {A : Option Addr} {w : World} (hr : Kd.C (Kd.slice 65 k65) w A yss.length (yss.map (·.map e65))) : Kd.C (Kd.slice 65 k65) w A ((yss.take 64).map (·.map e65)).length ((yss.take 64).map (·.map e65)) := by
 have h1 : Kd.C (Kd.slice 65 k65) w A (yss.map (·.map e65)).length (yss.map (·.map e65)) := by rw [List.length_map]; exact hr
 have h2 := Kd.C_take h1 (m := min 64 yss.length) (by rw [List.length_map]; omega)
 rw [← List.map_take] at h2
 have e : yss.take (min 64 yss.length) = yss.take 64 := by rw [List.take_eq_take_iff]; omega
 rwa [e] at h2
section
variable {w w0 : World} {gt cO g ca gp cp gd cd : Nat} {AO A : Option Addr} {ats pls dus : List Int} {ss : List (Option Addr × Nat × Nat)} {yss : List (List S64)} {pos : List Nat}
theorem tpop_any (T : Tl w w0 gt AO cO g A ca ats gp cp pls gd cd dus ss yss pos) (L : Lk yss pos pls dus yss.length) (hy : yss.length ≤ 64) :
  Calls Try.prog 81 #[.pointer (some ⟨gt, 0, none⟩)] w fun e w' => ∃ (ok : Bool) (x : Nat) (en : S64), e = .returned (.tuple #[.agg #[.int .i64 x, .int .i64 en.f0, .int .i64 en.f1, .int .i64 en.f2, .int .i64 en.f3], .bool ok]) ∧
   (ok = true → Least yss pos x ∧ en = entO yss pos x ∧ ∃ A' ca' ats' pls' dus' ss', Tl w' w0 gt AO cO g A' ca' ats' gp cp pls' gd cd dus' ss' yss (stepP pos x) ∧ Lk yss (stepP pos x) pls' dus' yss.length ∧ NewA w.heap.size A A') ∧
   (ok = false → ∀ i, ¬ Av yss pos i) ∧ Chg (fun k => heapS g A gp gd k ∨ (Value.slice AO ss.length cO).ownBlock = some k) w w' := by
 by_cases he : ats = []
 ·subst he
  refine (tpop_none T L).mono ?_
  rintro e w1 ⟨rfl, hb⟩
  exact ⟨false, 0, zz64, rfl, fun q => (by cases q), fun _ => T.empty L, Chg.of_below hb _⟩
 ·refine (tpop_calls T L hy (List.length_pos_iff.2 he)).mono ?_
  rintro e w1 ⟨x, hl, rfl, A', ca', ats', pls', dus', ss', h1, h2, h3, h4⟩
  exact ⟨true, x, _, rfl, fun _ => ⟨hl, rfl, A', ca', ats', pls', dus', ss', h1, h2, h4⟩, fun q => (by cases q), h3⟩
end
def Mst (w w0 : World) (gt : Nat) (AO : Option Addr) (cO g gp cp gd cd : Nat) (ys : List (List S64)) (P0 : List Nat) (v5 : Value) (out : List (Nat × S64)) (c : Nat × S64) : Prop := ∃ pos A ca ats pls dus ss, Tl w w0 gt AO cO g A ca ats gp cp pls gd cd dus ss ys pos ∧ Lk ys pos pls dus ys.length ∧ Pre ys P0 (out ++ [c]) pos ∧ out.length + 1 + leftN ys pos ≤ 64000 ∧ (∀ k, v5.ownBlock = some k → k ≠ gt ∧ ¬ heapS g A gp gd k ∧ ¬ (Value.slice AO ss.length cO).ownBlock = some k)
def lenV : Value → Nat
 | .slice _ n _ => n
 | _ => 0
attribute [local go_sem] max2_mx min2_mn max_two min_two
set_option maxHeartbeats 16000000 in
set_option maxRecDepth 100000 in
theorem mlogs_calls (AI : Option Addr) (cI : Nat) (yss : List (List S64)) (w0 : World) (hr : Kd.C (Kd.slice 65 k65) w0 AI yss.length (yss.map (·.map e65))) (hc : yss.length ≤ cI) (hb : ∀ i, (yss.getD i []).length ≤ 1000) (hm : yss.length ≤ 1000) :
  Calls Try.prog 40 #[.slice AI yss.length cI] w0 fun e w' => ∃ v rs, e = .returned v ∧ Mg (yss.take 64) (List.replicate (yss.take 64).length 0) rs ∧ k67.R 67 w' w0.heap.size (fun _ => True) v (rs.map row67) ∧ Below w0.heap.size w0 w' := by
 have hu123 := Try.underlying123
 have hu67 := Try.underlying67
 have hu65 := Try.underlying65
 obtain ⟨ss, hks, hsl, hss⟩ := ks_of (take_map64 yss hr)
 rw [List.length_map] at hsl hss
 have KSC := asd hks
 have SL := asd hsl
 have SS := asd hss
 have YL : Aside0 ((yss.take 64).length ≤ 64) := ⟨by rw [List.length_take]; omega⟩
 have m1 : mn (yss.length : Int) 64 = (ss.length : Int) := by rw [hsl, List.length_take]; unfold mn; split <;> omega
 have c0 : (0 ≤ (ss.length : Int)) = True := eq_true (by omega)
 have c1 : ((ss.length : Int) ≤ (cI : Int)) = True := eq_true (by rw [hsl, List.length_take]; omega)
 have c2 : (ss.length ≤ cI) = True := eq_true (by rw [hsl, List.length_take]; omega)
 have s99 : (ss.length : Int) ≤ 64 := by rw [hsl]; have := YL.out; omega
 have HB := asd hb
 clear hks hsl hss hr hc hb hm
 go_enter Try.func40, Try.ntmps40
 go_wp2_with (first | (go_at_call 78; refine (ksclone_calls AI cI ss _ KSC.out (by omega)).mono ?_; rintro e w1 ⟨v1, rfl, hv, hb⟩; obtain ⟨AO, cO, rfl⟩ := Kd.R_slice hv; have RO := asd hv; have B1 := asd hb; clear hv hb) | (go_at_call 79; refine (hnew_calls ss.length (by omega) _).mono ?_; rintro e w2 ⟨g, gp, cp, gd, cd, pls, rfl, h2, hl2, hm2, hb2⟩; have H2 := asd h2; have HM2 := asd (And.intro hl2 hm2); have B2 := asd hb2; clear h2 hl2 hm2 hb2))
 generalize hys : yss.take 64 = ys at SL SS YL ⊢
 have HYB : Aside0 (∀ i, (ys.getD i []).length ≤ 1000) := ⟨fun i => by
  rw [← hys]
  by_cases q : i < 64
  ·rw [getD_take _ _ _ _ q]; exact HB.out i
  ·have : (yss.take 64).getD i [] = [] := by rw [List.getD_eq_getElem?_getD, List.getElem?_take, if_neg q]; rfl
   rw [this]; simp⟩
 have GT0 := asd (Nat.le_trans B1.out.size B2.out.size)
 have T0 : Aside0 (Tl (w2.alloc (.cells #[.slice AO ss.length cO, .pointer (some ⟨g, 0, none⟩)] 123)) w0 w2.heap.size AO cO g none 0 [] gp cp pls gd cd (List.replicate ss.length 0) ss ys (List.replicate ys.length 0)) := ⟨by
  have bb := below_alloc (Below.refl w2.heap.size w2) (.cells #[.slice AO ss.length cO, .pointer (some ⟨g, 0, none⟩)] 123)
  refine ⟨heap_alloc_new _ _, ?_, ⟨(H2.out.is.lower B1.out.size).below bb, H2.out.li, H2.out.he⟩, SL.out, HM2.out.1.trans SL.out, List.length_replicate, Nat.zero_le _, fun i hi => ?_, fun hs => ?_, GT0.out, ?_⟩
  ·refine Kd.R_reok rfl (Kd.R_below (Kd.R_below RO.out B2.out) bb) (fun k hk => ?_)
   have hk1 := Kd.R_lt RO.out k hk
   exact ⟨by have := B2.out.size; omega, fun hs => by have := (H2.out.is.low k hs).1; omega⟩
  ·have h := SS.out i hi
   have e : restO ys (List.replicate ys.length 0) i = (ys.getD i []).map e65 := by
    unfold restO
    rw [show (List.replicate ys.length 0).getD i 0 = 0 by simp [List.getD_eq_getElem?_getD, List.getElem?_replicate]; split <;> rfl, List.drop_zero]
   have e2 : (ys.map (·.map e65)).getD i [] = (ys.getD i []).map e65 := getD_map (·.map e65) ys i []
   rw [e2] at h
   rw [e]; exact h
  ·have := (H2.out.is.low _ hs).2; omega
  ·exact (((Chg.of_belowB B1.out).then_ (Chg.of_below B2.out (fun _ => False)) (fun _ h => h.elim)).below bb).to_below (fun _ h => h) (Nat.le_refl _)⟩
 generalize w2.alloc (.cells #[.slice AO ss.length cO, .pointer (some ⟨g, 0, none⟩)] 123) = w3 at T0 ⊢
 generalize w2.heap.size = gt at T0 ⊢
 generalize List.replicate ss.length (0 : Int) = dus0 at T0
 have HYS := asd hys
 clear hys H2 RO B1 B2 HB SS KSC GT0 m1 c0 c1 c2
 go_loopw [22] (fun v wr => ∃ (i : Nat) (A : Option Addr) (ca : Nat) (ats pls dus : List Int), v = .int .i64 i ∧ Aside0 (i ≤ ys.length ∧ ats.length ≤ i ∧ ∀ k, i ≤ k → k < ys.length → pls.getD k 0 = -1) ∧ Aside0 (Tl wr w0 gt AO cO g A ca ats gp cp pls gd cd dus ss ys (List.replicate ys.length 0)) ∧ Aside0 (LkP ys (List.replicate ys.length 0) pls dus (fun k => k < i))) (fun v _ => ys.length - (intOf v).toNat)
 case atStart => exact ⟨0, none, 0, [], pls, dus0, rfl, ⟨Nat.zero_le _, Nat.le_refl _, fun k _ hk => HM2.out.2 k (by rw [SL.out]; exact hk)⟩, T0, ⟨fun k _ hk => absurd hk (by omega)⟩⟩
 case round =>
  clear T0 HM2
  obtain ⟨i, A, ca, ats, pls, dus, rfl, HX, HT, LK⟩ := hrel
  have i99 : (i : Int) ≤ 64 := by have := HX.out.1; have := YL.out; omega
  by_cases hi : i < ss.length
  ·have q0 : decide ((i : Int) < (ss.length : Int)) = true := decide_eq_true (by omega)
   have q1 : decide (i < ss.length) = true := decide_eq_true hi
   have HI := asd (show i < ys.length by rw [← SL.out]; exact hi)
   clear hi
   go_wp2_with fail
   refine (push_calls HT.out i HI.out YL.out LK.out (fun k hk => by omega) (HX.out.2.2 i (Nat.le_refl _) HI.out) (by have := HX.out.2.1; have := HI.out; omega)).mono ?_
   rintro e w6 ⟨rfl, A6, ca6, ats6, pls6, dus6, h6, hl6, hn6, hc6, na6, hk6⟩
   have T6 := asd h6
   have LK6 := asd hl6
   have HX6 : Aside0 (i + 1 ≤ ys.length ∧ ats6.length ≤ i + 1 ∧ ∀ k, i + 1 ≤ k → k < ys.length → pls6.getD k 0 = -1) := ⟨HI.out, by have := HX.out.2.1; omega, fun k h1 h2 => (hk6 k h2 (by omega)).2 (HX.out.2.2 k (by omega) h2)⟩
   clear h6 hl6 hn6 hc6 na6 hk6
   go_wp2
   go_roundw
   case rel => exact ⟨i + 1, A6, ca6, ats6, pls6, dus6, by go_num, HX6, T6, ⟨fun k hk hlt => LK6.out k hk (by omega)⟩⟩
   case measure => have := HI.out; simp [intOf]; omega
  ·have q0 : decide ((i : Int) < (ss.length : Int)) = false := decide_eq_false (by omega)
   have q1 : decide (i < ss.length) = false := decide_eq_false hi
   have L0 : Aside0 (Lk ys (List.replicate ys.length 0) pls dus ys.length) := ⟨fun k hk _ => LK.out k hk (by rw [SL.out] at hi; omega)⟩
   clear hi LK
   have PN := asd (tpop_any HT.out L0.out YL.out)
   go_wp2_with fail
   refine PN.out.mono ?_
   rintro e w5 ⟨ok, x, en, rfl, ht, hf, hc⟩
   have HT5 := asd ht
   have HF5 := asd hf
   have HC5 := asd hc
   have HBE := asd ((((Chg.of_belowB HT.out.be).then_ hc (fun k hk => .inl (by
    rcases hk with hk | hk
    ·exact (HT.out.hp.is.low k hk).1
    ·exact Kd.R_base HT.out.ro k hk))).to_below (fun _ h => h) (Nat.le_refl _) : Below w0.heap.size w0 w5))
   obtain ⟨f0, f1, f2, f3⟩ := en
   clear ht hf hc PN
   go_wp2
   have HT6 : Aside0 (ok = true → Mst (w5.alloc (.cells #[.int .i64 x, .int .i64 f0, .int .i64 f1, .int .i64 f2, .int .i64 f3] 67)) w0 gt AO cO g gp cp gd cd ys (List.replicate ys.length 0) (.slice none 0 0) [] (x, ⟨f0, f1, f2, f3⟩)) := ⟨fun hok => by
    obtain ⟨hl, he, A', ca', ats', pls', dus', ss', h1, h2, h3⟩ := HT5.out hok
    refine ⟨_, A', ca', ats', pls', dus', ss', h1.below (below_alloc (Below.refl _ _) _), h2, ?_, ?_, fun k hk => by simp [Value.ownBlock] at hk⟩
    ·rw [he]; exact pre_step (pre_nil _ _) hl
    ·have h4 := left_step (yss := ys) (pos := List.replicate ys.length 0) (by simp) hl.1
     have h5 := left_le ys (List.replicate ys.length 0) 1000 HYB.out
     have h6 := YL.out
     have h7 : ys.length * 1000 ≤ 64 * 1000 := Nat.mul_le_mul_right _ h6
     simp only [List.length_nil]; omega⟩
   have HF6 : Aside0 (ok = false → Mg ys (List.replicate ys.length 0) []) := ⟨fun hok => .done (HF5.out hok)⟩
   have HB6 : Aside0 (Below w0.heap.size w0 (w5.alloc (.cells #[.int .i64 x, .int .i64 f0, .int .i64 f1, .int .i64 f2, .int .i64 f3] 67))) := ⟨((Chg.of_belowB HBE.out).alloc _).to_below (fun _ h => h) (Nat.le_refl _)⟩
   have B6 := asd (heap_alloc_new w5 (.cells #[.int .i64 x, .int .i64 f0, .int .i64 f1, .int .i64 f2, .int .i64 f3] 67))
   have HBE0 := asd HBE.out
   clear HT5 HF5 HC5 HBE HT L0 HX
   generalize w5.alloc (.cells #[.int .i64 x, .int .i64 f0, .int .i64 f1, .int .i64 f2, .int .i64 f3] 67) = w7 at HT6 HB6 B6 ⊢
   have GB6 := asd HBE0.out.size
   clear HBE0
   generalize w5.heap.size = b6 at B6 GB6 ⊢
   go_loopw [5, 6, 7] (fun v5 v6 v7 wr => ∃ (out : List (Nat × S64)) (A5 : Option Addr) (c5 b6 x : Nat) (f0 f1 f2 f3 : Int) (ok : Bool), v5 = .slice A5 out.length c5 ∧ v6 = .pointer (some ⟨b6, 0, none⟩) ∧ v7 = .bool ok ∧ Aside0 (wr.heap[b6]? = some (.cells #[.int .i64 x, .int .i64 f0, .int .i64 f1, .int .i64 f2, .int .i64 f3] 67 (0, 0))) ∧ Aside0 (¬ (Value.slice A5 out.length c5).ownBlock = some b6 ∧ w0.heap.size ≤ b6) ∧ Aside0 (k67.R 67 wr w0.heap.size (fun _ => True) (.slice A5 out.length c5) (out.map row67)) ∧ Aside0 (ok = true → Mst wr w0 gt AO cO g gp cp gd cd ys (List.replicate ys.length 0) (.slice A5 out.length c5) out (x, ⟨f0, f1, f2, f3⟩)) ∧ Aside0 (ok = false → Mg ys (List.replicate ys.length 0) out) ∧ Aside0 (Below w0.heap.size w0 wr)) (fun v5 _ _ _ => 64001 - lenV v5)
   case atStart => exact ⟨[], none, 0, b6, x, f0, f1, f2, f3, ok, rfl, rfl, rfl, B6, ⟨by simp [Value.ownBlock], GB6.out⟩, ⟨Kd.R_nil _ _ _ _ _⟩, HT6, HF6, HB6⟩
   case round =>
    clear HT6 HF6 HB6 B6 GB6
    obtain ⟨out, A5, c5, b6, x, f0, f1, f2, f3, ok, rfl, rfl, rfl, B6, NB6, HR, HT, HF, HB⟩ := hrel
    cases ok with
    | false =>
     have HG := asd (HF.out rfl)
     go_wp2
     go_ret
     exact ⟨_, rfl, out, by have h := HG.out; rw [← HYS.out, List.length_take] at h; exact h, HR.out, HB.out⟩
    | true =>
     obtain ⟨pos, A, ca, ats, pls, dus, ss2, tT, tL, tP, tN, tA⟩ := HT.out rfl
     have T1 := asd tT
     have L1 := asd tL
     have P1 := asd tP
     have N1 := asd tN
     have A1 := asd tA
     clear tT tL tP tN tA HT HF
     have y0 := (blk_cell B6.out 0).trans rfl
     have y1 := (blk_cell B6.out 1).trans rfl
     have y2 := (blk_cell B6.out 2).trans rfl
     have y3 := (blk_cell B6.out 3).trans rfl
     have y4 := (blk_cell B6.out 4).trans rfl
     have EA : Aside0 (out.map row67 ++ [row67 (x, ⟨f0, f1, f2, f3⟩)] = (out ++ [(x, (⟨f0, f1, f2, f3⟩ : S64))]).map row67) := ⟨by simp⟩
     go_wp2_with (first | (at_builtin; refine Kd.R_append k67 (w0 := w0) w0.heap.size rfl (.tmp 40) (.tmp 42) 56 67 (.agg #[.int .i64 0, .int .i64 0, .int .i64 0, .int .i64 0, .int .i64 0]) 40 rfl Try.underlying56 info67 rfl (by decide) (by omega) (.slice A5 out.length c5) (out.map row67) (row67 (x, ⟨f0, f1, f2, f3⟩)) [.int .i64 x, .int .i64 f0, .int .i64 f1, .int .i64 f2, .int .i64 f3] (fun _ => True) (fun _ => False) rfl rfl (k67_mkM _ _ _ _) (fun _ hk => hk.elim) (fun _ _ => trivial) HR.out HB.out (below_size HB.out) (by rw [List.length_map]; have := N1.out; omega) ?_; intro v1 w1 ho hb hg hat; rw [EA.out] at ho; obtain ⟨A6, c6, rfl⟩ := Kd.R_slice ho; rw [List.length_map] at ho hat ⊢; have HR1 := asd ho; have HB1 := asd hb; have HA1 := asd hat; have HC1 := asd ((Chg.refl (fun k => (Value.slice A5 out.length c5).ownBlock = some k) wr).grown hg (fun k hk => .inl hk)); have B61 := asd (blk_chg B6.out HC1.out NB6.out.1); clear ho hb hg hat y0 y1 y2 y3 y4; have y0 := (blk_cell B61.out 0).trans rfl; have y1 := (blk_cell B61.out 1).trans rfl; have y2 := (blk_cell B61.out 2).trans rfl; have y3 := (blk_cell B61.out 3).trans rfl; have y4 := (blk_cell B61.out 4).trans rfl))
     have BA := asd (below_alloc (Below.refl w1.heap.size w1) (.cells #[.int .i64 x, .int .i64 f0, .int .i64 f1, .int .i64 f2, .int .i64 f3] 67))
     have T2 := asd ((T1.out.chg HC1.out (fun k hk => ⟨Kd.R_base HR.out k hk, (A1.out k hk).1, (A1.out k hk).2.1, (A1.out k hk).2.2⟩)).below BA.out)
     have LOW : Aside0 (∀ k, (k = gt ∨ heapS g A gp gd k ∨ (Value.slice AO ss2.length cO).ownBlock = some k) → k < wr.heap.size) := ⟨fun k hk => by
      rcases hk with rfl | hk | hk
      ·exact blk_lt T1.out.blk
      ·exact (T1.out.hp.is.low k hk).2
      ·exact Kd.R_lt T1.out.ro k hk⟩
     have A2 : Aside0 (∀ k, (Value.slice A6 (out ++ [(x, (⟨f0, f1, f2, f3⟩ : S64))]).length c6).ownBlock = some k → k ≠ gt ∧ ¬ heapS g A gp gd k ∧ ¬ (Value.slice AO ss2.length cO).ownBlock = some k) := ⟨fun k hk => by
      rcases HA1.out with h | ⟨b, hb, hs⟩
      ·exact A1.out k (h.symm.trans hk)
      ·obtain rfl : b = k := Option.some.inj (hb.symm.trans hk)
       exact ⟨fun e => by have := LOW.out b (.inl e); omega, fun e => by have := LOW.out b (.inr (.inl e)); omega, fun e => by have := LOW.out b (.inr (.inr e)); omega⟩⟩
     have BN := asd (heap_alloc_new w1 (.cells #[.int .i64 x, .int .i64 f0, .int .i64 f1, .int .i64 f2, .int .i64 f3] 67))
     have SZ1 := asd HC1.out.size
     have APN : Aside0 (w1.heap.size ≠ gt ∧ ¬ heapS g A gp gd w1.heap.size ∧ ¬ (Value.slice AO ss2.length cO).ownBlock = some w1.heap.size ∧ w0.heap.size ≤ w1.heap.size) := ⟨fun e => by have := LOW.out _ (.inl e); have := SZ1.out; omega, fun e => by have := LOW.out _ (.inr (.inl e)); have := SZ1.out; omega, fun e => by have := LOW.out _ (.inr (.inr e)); have := SZ1.out; omega, HB1.out.size⟩
     have NV : Aside0 (∀ k, (Value.slice A6 (out ++ [(x, (⟨f0, f1, f2, f3⟩ : S64))]).length c6).ownBlock = some k → k < w1.heap.size) := ⟨fun k hk => Kd.R_lt HR1.out k hk⟩
     have HR2 := asd (Kd.R_below HR1.out BA.out)
     have HB2 : Aside0 (Below w0.heap.size w0 (w1.alloc (.cells #[.int .i64 x, .int .i64 f0, .int .i64 f1, .int .i64 f2, .int .i64 f3] 67))) := ⟨((Chg.of_belowB HB1.out).alloc _).to_below (fun _ h => h) (Nat.le_refl _)⟩
     have SZN : Aside0 (w1.heap.size < (w1.alloc (.cells #[.int .i64 x, .int .i64 f0, .int .i64 f1, .int .i64 f2, .int .i64 f3] 67)).heap.size) := ⟨blk_lt BN.out⟩
     clear y0 y1 y2 y3 y4 BA HC1 HR HB HA1 B61 B6 HR1 HB1
     generalize w1.alloc (.cells #[.int .i64 x, .int .i64 f0, .int .i64 f1, .int .i64 f2, .int .i64 f3] 67) = w2 at T2 BN HR2 HB2 SZN ⊢
     generalize w1.heap.size = nb at BN APN NV SZN SZ1 ⊢
     refine (tpop_any T2.out L1.out YL.out).mono ?_
     rintro e w8 ⟨ok2, x2, ⟨k0, k1, k2, k3⟩, rfl, ht, hf, hc⟩
     have BN8 := asd (blk_chg BN.out hc (fun h => h.elim APN.out.2.1 APN.out.2.2.1))
     have HR8 := asd (Kd.R_mono (R_chg (Kd.R_tight2 rfl HR2.out) hc (fun k hk h => h.elim (A2.out k hk.1.symm).2.1 (A2.out k hk.1.symm).2.2)) (fun _ h => h.2))
     have HB8 : Aside0 (Chg (fun k => w0.heap.size ≤ k) w0 w8) := ⟨(Chg.of_belowB HB2.out).then_ hc (fun k hk => .inl (by
      rcases hk with hk | hk
      ·exact (T2.out.hp.is.low k hk).1
      ·exact Kd.R_base T2.out.ro k hk))⟩
     have HT8 := asd ht
     have HF8 := asd hf
     clear ht hf hc
     have q0 := (blk_cell BN8.out 0).trans rfl
     have q1 := (blk_cell BN8.out 1).trans rfl
     have q2 := (blk_cell BN8.out 2).trans rfl
     have q3 := (blk_cell BN8.out 3).trans rfl
     have q4 := (blk_cell BN8.out 4).trans rfl
     have r0 := blk_frozen BN8.out 0
     have r1 := blk_frozen BN8.out 1
     have r2 := blk_frozen BN8.out 2
     have r3 := blk_frozen BN8.out 3
     have r4 := blk_frozen BN8.out 4
     go_wp2
     go_roundw
     case rel =>
      have FR : ∀ (wq : World) (i : Nat) (v : Value), k67.R 67 wq w0.heap.size (fun _ => True) (.slice A6 (out ++ [(x, (⟨f0, f1, f2, f3⟩ : S64))]).length c6) ((out ++ [(x, (⟨f0, f1, f2, f3⟩ : S64))]).map row67) → k67.R 67 (wq.setCell ⟨nb, i, none⟩ v) w0.heap.size (fun _ => True) (.slice A6 (out ++ [(x, (⟨f0, f1, f2, f3⟩ : S64))]).length c6) ((out ++ [(x, (⟨f0, f1, f2, f3⟩ : S64))]).map row67) := fun wq i v h => Kd.R_mono (Kd.R_far (Kd.R_tight2 rfl h) (p := ⟨nb, i, none⟩) (fun k hk e => by have h1 := NV.out k hk.1.symm; have e2 : k = nb := e; omega) v) (fun _ h => h.2)
      refine ⟨out ++ [(x, ⟨f0, f1, f2, f3⟩)], A6, c6, nb, x2, k0, k1, k2, k3, ok2, by simp, rfl, rfl, ⟨blk_put (blk_put (blk_put (blk_put (blk_put BN8.out 0 _ rfl) 1 _ rfl) 2 _ rfl) 3 _ rfl) 4 _ rfl⟩, ⟨fun h => by have := NV.out _ h; omega, APN.out.2.2.2⟩, ⟨FR _ _ _ (FR _ _ _ (FR _ _ _ (FR _ _ _ (FR _ _ _ HR8.out))))⟩, ⟨fun hok => ?_⟩, ⟨fun hok => pre_end P1.out (HF8.out hok)⟩, ⟨(((((HB8.out.set_ (p := ⟨nb, 0, none⟩) (.inl APN.out.2.2.2) _).set_ (p := ⟨nb, 1, none⟩) (.inl APN.out.2.2.2) _).set_ (p := ⟨nb, 2, none⟩) (.inl APN.out.2.2.2) _).set_ (p := ⟨nb, 3, none⟩) (.inl APN.out.2.2.2) _).set_ (p := ⟨nb, 4, none⟩) (.inl APN.out.2.2.2) _).to_below (fun _ h => h) (Nat.le_refl _)⟩⟩
      obtain ⟨hl, he, A', ca', ats', pls', dus', ss', h1, h2, h3⟩ := HT8.out hok
      have nA : ¬ heapS g A' gp gd nb := fun h => by
       rcases heapS_new h3 h with h | h
       ·exact APN.out.2.1 h
       ·have := SZN.out; omega
      have nO : ¬ (Value.slice AO ss'.length cO).ownBlock = some nb := fun h => APN.out.2.2.1 (by cases AO with
       | none => simp [Value.ownBlock] at h
       | some a => exact h)
      refine ⟨stepP pos x2, A', ca', ats', pls', dus', ss', (((((h1.far _ APN.out.2.2.2 APN.out.1 nA nO).far _ APN.out.2.2.2 APN.out.1 nA nO).far _ APN.out.2.2.2 APN.out.1 nA nO).far _ APN.out.2.2.2 APN.out.1 nA nO).far _ APN.out.2.2.2 APN.out.1 nA nO), h2, ?_, ?_, fun k hk => ⟨(A2.out k hk).1, fun h => ?_, fun h => (A2.out k hk).2.2 (by cases AO with
       | none => simp [Value.ownBlock] at h
       | some a => exact h)⟩⟩
      ·rw [he]; exact pre_step P1.out hl
      ·have h4 := left_step (by rw [T1.out.l3]) hl.1
       have := N1.out
       rw [List.length_append]; simp only [List.length_singleton]; omega
      ·rcases heapS_new h3 h with h | h
       ·exact (A2.out k hk).2.1 h
       ·have := NV.out k hk; have := SZN.out; omega
     case measure => have := N1.out; simp [lenV]; omega
end Go.Proofs.Ytalimpniimgheaa.Fn
namespace Go.Proofs.Ytalimpniimgheaa.Fn
open Go.RowKit Go.Proofs.YtalimpniimgheaaW.PrintWords Go.Proofs.YtalimpniimgheaaW.PrintLast Go.Proofs.YtalimpniimgheaaW.PrintMore
attribute [local go_sem] max2_int min2_int max_two min_two max_three min_three max_four min_four
set_option linter.unusedVariables false
set_option linter.unusedSimpArgs false
mutual
def parcloselaw40_few.l0 : Nat → List (List (S64)) → Int → Option (Bool)
 | 0, _, _ => none
 | k + 1, x0, x3 => if x3 < (x0.length : Int) then (parcloselaw40_few.j1 k x0 x3 (decide (x3 < 100))) else (parcloselaw40_few.j1 k x0 x3 false)
def parcloselaw40_few.j1 : Nat → List (List (S64)) → Int → Bool → Option (Bool)
 | 0, _, _, _ => none
 | k + 1, x0, x3, x11 => if x11 = true then (if 0 ≤ x3 then (if x3 < (x0.length : Int) then (if ((rd_L7 x0 x3).length : Int) > 40 then (some false) else (parcloselaw40_few.l0 k x0 (wrap64 (x3 + 1)))) else (none)) else (none)) else (some (decide ((x0.length : Int) ≤ 70)))
end
def parcloselaw40_few.f (k : Nat) (l0 : List (List (S64))) : Option (Bool) := parcloselaw40_few.l0 k l0 0
set_option maxHeartbeats 8000000 in
set_option maxRecDepth 100000 in
theorem parcloselaw40_few.calls (k : Nat) (A0 : Option Addr) (c0 : Nat) (l0 : List (List (S64))) (r : Bool) (w : World) (hr0 : Kd.C (Kd.slice 64 k64) w A0 l0.length l0) (hc0 : l0.length ≤ c0) (h : parcloselaw40_few.f k l0 = some r) :
  Calls Try.prog 37 #[.slice A0 l0.length c0] w fun e w' => e = .returned (.bool r) ∧ Drawn0 w w' := by
 have HR0 := asd hr0
 have HC0 := asd hc0
 clear hr0 hc0
 have H : (parcloselaw40_few.l0 k l0 0) = some r := h
 clear h
 have H' := asd H
 clear H
 go_enter Try.func37, Try.ntmps37
 go_wp2
 go_loopg [3] k (fun kq v3 w' => ∃ (x3_1 : Int), v3 = .int .i64 x3_1 ∧ Aside0 (parcloselaw40_few.l0 kq l0 x3_1 = some r) ∧ Aside0 (kq ≤ k) ∧ Drawn0 w w')
 case atStart => exact ⟨(0), (by first | rfl | (simp; done) | (simp [*]; done)), H', ⟨Nat.le_refl _⟩, by repeat (first | exact Drawn0.refl _ | apply Drawn0.step)⟩
 case round =>
  clear H'
  obtain ⟨x3_1, rfl, HA, HK1, ⟨m1, rfl⟩⟩ := hrel
  cases gk with
  | zero => exact absurd HA.out (by simp [parcloselaw40_few.l0])
  | succ k1 =>
   have H := HA.out
   clear HA
   simp only [parcloselaw40_few.l0] at H
   have HC2 := asd H
   clear H
   go_upto_region 2 with (fail)
   go_cut [11] (fun v11 wc => ∃ (kq : Nat) (x11_1 : Bool), v11 = .bool x11_1 ∧ Aside0 (parcloselaw40_few.j1 kq l0 x3_1 x11_1 = some r) ∧ Aside0 (kq ≤ k1) ∧ Drawn0 w wc)
   case first =>
    have H := HC2.out
    clear HC2
    by_cases c3 : x3_1 < (l0.length : Int)
    ·rw [if_pos c3] at H
     have c3b0 : decide (x3_1 < (l0.length : Int)) = true := decide_eq_true c3
     clear c3
     (first | rw [c3b0] | (simp only [i64_w, i32_w]; rw [c3b0]) | skip)
     have H' := asd H
     clear H
     go_wp2
     go_meet
     case rel => exact ⟨_, (decide (x3_1 < 100)), (by first | rfl | (simp; done) | (simp [*]; done)), H', ⟨by have := HK1.out; first | omega | exact Nat.le_refl _⟩, by repeat (first | exact Drawn0.refl _ | apply Drawn0.step)⟩
    ·rw [if_neg c3] at H
     have c3b0 : decide (x3_1 < (l0.length : Int)) = false := decide_eq_false c3
     clear c3
     (first | rw [c3b0] | (simp only [i64_w, i32_w]; rw [c3b0]) | skip)
     have H' := asd H
     clear H
     go_wp2
     go_meet
     case rel => exact ⟨_, (false), (by first | rfl | (simp; done) | (simp [*]; done)), H', ⟨by have := HK1.out; first | omega | exact Nat.le_refl _⟩, by repeat (first | exact Drawn0.refl _ | apply Drawn0.step)⟩
   case rest =>
    clear HC2
    try clear p2
    try clear c3
    try clear c3b0
    obtain ⟨kq, x11_1, rfl, HA, HJ1, ⟨mc1, rfl⟩⟩ := hcut
    cases kq with
    | zero => exact absurd HA.out (by simp [parcloselaw40_few.j1])
    | succ kj1 =>
     have H := HA.out
     clear HA
     simp only [parcloselaw40_few.j1] at H
     by_cases c4 : x11_1 = true
     ·subst c4
      have H1 : (if 0 ≤ x3_1 then (if x3_1 < (l0.length : Int) then (if ((rd_L7 l0 x3_1).length : Int) > 40 then (some false) else (parcloselaw40_few.l0 kj1 l0 (wrap64 (x3_1 + 1)))) else (none)) else (none)) = some r := by rw [if_pos rfl] at H; exact H
      clear H
      have H := H1
      clear H1
      by_cases c5 : 0 ≤ x3_1
      ·rw [if_pos c5] at H
       have c5b0 : decide (0 ≤ x3_1) = true := decide_eq_true c5
       clear c5
       by_cases c6 : x3_1 < (l0.length : Int)
       ·rw [if_pos c6] at H
        have c6b0 : decide (x3_1 < (l0.length : Int)) = true := decide_eq_true c6
        clear c6
        by_cases c7 : ((rd_L7 l0 x3_1).length : Int) > 40
        ·rw [if_pos c7] at H
         have c7b0 : decide (40 < ((rd_L7 l0 x3_1).length : Int)) = true := decide_eq_true c7
         have c7b1 : decide (40 < (rd_L7 l0 x3_1).length) = true := decide_eq_true (by omega)
         clear c7
         obtain rfl := Option.some.inj H
         have p231 : 0 ≤ (x3_1 : Int) := of_decide_eq_true (by assumption)
         have q231 : x3_1 < (l0.length : Int) := of_decide_eq_true (by assumption)
         obtain ⟨ad231, A231_0, c231_0, e231, hx231_0, hl231_0, hi231_0⟩ := at_L7 HR0.out x3_1 p231 q231
         cases e231
         have HR231_0 := asd hi231_0
         have HC231_0 := asd hl231_0
         clear hi231_0 hl231_0
         replace p231 := eq_true p231
         replace q231 := eq_true q231
         go_wp2
         go_ret
         exact ⟨by first | rfl | (simp; done) | (simp [*]; done), by repeat (first | exact Drawn0.refl _ | apply Drawn0.step)⟩
        ·rw [if_neg c7] at H
         have c7b0 : decide (40 < ((rd_L7 l0 x3_1).length : Int)) = false := decide_eq_false c7
         have c7b1 : decide (40 < (rd_L7 l0 x3_1).length) = false := decide_eq_false (by omega)
         clear c7
         have H' := asd H
         clear H
         have p231 : 0 ≤ (x3_1 : Int) := of_decide_eq_true (by assumption)
         have q231 : x3_1 < (l0.length : Int) := of_decide_eq_true (by assumption)
         obtain ⟨ad231, A231_0, c231_0, e231, hx231_0, hl231_0, hi231_0⟩ := at_L7 HR0.out x3_1 p231 q231
         cases e231
         have HR231_0 := asd hi231_0
         have HC231_0 := asd hl231_0
         clear hi231_0 hl231_0
         replace p231 := eq_true p231
         replace q231 := eq_true q231
         go_wp2
         go_roundg kj1
         case measure => have := HK1.out; have := HJ1.out; omega
         case rel => exact ⟨(wrap64 (x3_1 + 1)), (by first | rfl | (simp; done) | (simp [*]; done)), H', ⟨by have := HK1.out; have := HJ1.out; omega⟩, by repeat (first | exact Drawn0.refl _ | apply Drawn0.step)⟩
       ·rw [if_neg c6] at H
        exact absurd H (by simp)
      ·rw [if_neg c5] at H
       exact absurd H (by simp)
     ·replace c4 := Bool.eq_false_iff.mpr c4
      subst c4
      have H1 : (some (decide ((l0.length : Int) ≤ 70))) = some r := by rw [if_neg (show ¬ (false = true) by decide)] at H; exact H
      clear H
      have H := H1
      clear H1
      obtain rfl := Option.some.inj H
      go_wp2
      go_ret
      exact ⟨by first | rfl | (simp; done) | (simp [*]; done), by repeat (first | exact Drawn0.refl _ | apply Drawn0.step)⟩
end Go.Proofs.Ytalimpniimgheaa.Fn
namespace Go.Proofs.Ytalimpniimgheaa.Fn
open Go.RowKit Go.Proofs.YtalimpniimgheaaW.PrintWords Go.Proofs.YtalimpniimgheaaW.PrintLast Go.Proofs.YtalimpniimgheaaW.PrintMore
attribute [local go_sem] max2_int min2_int max_two min_two max_three min_three max_four min_four
set_option linter.unusedVariables false
set_option linter.unusedSimpArgs false
def parcloselaw40_owns.l0 : Nat → List (S64) → List (S65) → Int → Option ((List (S65)))
 | 0, _, _, _ => none
 | k + 1, x0, x3, x4 => if x4 < (x0.length : Int) then (if 0 ≤ x4 then (if x3.length < 4398046511104 then (parcloselaw40_owns.l0 k x0 (x3 ++ [(⟨(rd_T64 x0 x4).f0, (rd_T64 x0 x4).f1, (rd_T64 x0 x4).f2, (rd_T64 x0 x4).f3⟩ : S65)]) (wrap64 (x4 + 1))) else (none)) else (none)) else (some x3)
def parcloselaw40_owns.f (k : Nat) (l0 : List (S64)) : Option ((List (S65))) := parcloselaw40_owns.l0 k l0 ([] : List (S65)) 0
theorem parcloselaw40_owns.mono_l : ∀ k, (∀ y0 y1 y2, LeO (parcloselaw40_owns.l0 k y0 y1 y2) (parcloselaw40_owns.l0 (k + 1) y0 y1 y2))
 | 0 => fun _ _ _ r h => by simp [parcloselaw40_owns.l0] at h
 | k + 1 => by
  have ih0 := parcloselaw40_owns.mono_l k
  ·intro y0 y1 y2
   unfold parcloselaw40_owns.l0
   repeat' first
   | (with_reducible exact ih0 _ _ _)
   | (with_reducible exact LeO.refl _)
   | (with_reducible exact LeO.none _)
   | (with_reducible refine LeO.ite ?_ ?_)
   | (with_reducible refine LeO.bind ?_ (fun _ => ?_))
   | exact ih0 _ _ _
   | exact LeO.none _
   | refine LeO.ite ?_ ?_
   | refine LeO.bind ?_ (fun _ => ?_)
theorem parcloselaw40_owns.mono : ∀ a0 k, LeO (parcloselaw40_owns.f k a0) (parcloselaw40_owns.f (k + 1) a0) := by
 intro a0 k
 have ih0 := parcloselaw40_owns.mono_l k
 unfold parcloselaw40_owns.f
 repeat' first
   | (with_reducible exact ih0 _ _ _)
   | (with_reducible exact LeO.refl _)
   | (with_reducible exact LeO.none _)
   | (with_reducible refine LeO.ite ?_ ?_)
   | (with_reducible refine LeO.bind ?_ (fun _ => ?_))
   | exact ih0 _ _ _
   | exact LeO.none _
   | refine LeO.ite ?_ ?_
   | refine LeO.bind ?_ (fun _ => ?_)
set_option maxHeartbeats 8000000 in
set_option maxRecDepth 100000 in
theorem parcloselaw40_owns.calls (k : Nat) (A0 : Option Addr) (c0 : Nat) (l0 : List (S64)) (r : List (S65)) (w : World) (hr0 : Kd.C k64 w A0 l0.length l0) (hc0 : l0.length ≤ c0) (h : parcloselaw40_owns.f k l0 = some r) :
  Calls Try.prog 82 #[.slice A0 l0.length c0] w fun e w' => ∃ v0_ : Value, e = .returned (v0_) ∧ Kd.R k65 65 w' w.heap.size (fun _ => True) v0_ r ∧ Below w.heap.size w w' := by
 have hu64 := Try.underlying64
 have HR0 := asd hr0
 have HC0 := asd hc0
 clear hr0 hc0
 have HB := asd (Below.refl w.heap.size w)
 have H : (parcloselaw40_owns.l0 k l0 ([] : List (S65)) 0) = some r := h
 clear h
 have H' := asd H
 clear H
 go_enter Try.func82, Try.ntmps82
 go_wp2
 go_loopg [3, 4] k (fun kq v3 v4 w' => ∃ (x3_1 : List (S65)) (x4_1 : Int), v4 = .int .i64 x4_1 ∧ Aside0 (parcloselaw40_owns.l0 kq l0 x3_1 x4_1 = some r) ∧ Aside0 (kq ≤ k) ∧ Aside0 (Kd.R k65 65 w' w.heap.size (fun _ => True) v3 x3_1) ∧ Aside0 (Below w.heap.size w w'))
 case atStart => exact ⟨(([] : List (S65))), (0), (by first | rfl | (simp; done) | (simp [*]; done)), H', ⟨Nat.le_refl _⟩, ⟨by first | exact Kd.R_nil _ _ _ _ _ | exact Kd.N_nil _ _ _ _ _ | exact Kd.V_nil _ _ _ _ _ | exact Kd.Q_nil _ _ _ _ _ | exact Kd.S_nil _ _ _ _ _⟩, ⟨by repeat (first | (with_reducible first | exact HB.out | apply wa | apply wn | apply wd) | exact HB.out)⟩⟩
 case round =>
  clear H'
  obtain ⟨x3_1, x4_1, rfl, HA, HK1, HO_3, HB⟩ := hrel
  cases gk with
  | zero => exact absurd HA.out (by simp [parcloselaw40_owns.l0])
  | succ k1 =>
   have H := HA.out
   clear HA
   simp only [parcloselaw40_owns.l0] at H
   by_cases c2 : x4_1 < (l0.length : Int)
   ·rw [if_pos c2] at H
    have c2b0 : decide (x4_1 < (l0.length : Int)) = true := decide_eq_true c2
    clear c2
    by_cases c3 : 0 ≤ x4_1
    ·rw [if_pos c3] at H
     have c3b0 : decide (0 ≤ x4_1) = true := decide_eq_true c3
     clear c3
     by_cases c4 : x3_1.length < 4398046511104
     ·rw [if_pos c4] at H
      have LMc4 := asd c4
      clear c4
      obtain ⟨y258, hy258⟩ : ∃ y_ : List (S65), y_ = (x3_1 ++ [(⟨(rd_T64 l0 x4_1).f0, (rd_T64 l0 x4_1).f1, (rd_T64 l0 x4_1).f2, (rd_T64 l0 x4_1).f3⟩ : S65)]) := ⟨_, rfl⟩
      replace H : (parcloselaw40_owns.l0 k1 l0 y258 (wrap64 (x4_1 + 1))) = some r := by first | (rw [hy258]; with_reducible exact H) | (have H2_ := (Option.bind_some _ _).symm.trans H; rw [hy258]; with_reducible exact H2_) | (have H2_ := (Option.bind_some _ _).symm.trans H; with_reducible exact H2_) | with_reducible exact H | (rw [hy258]; exact H) | exact H
      have Ny258 := asd hy258
      clear hy258
      have H' := asd H
      clear H
      have p257 : 0 ≤ (x4_1 : Int) := of_decide_eq_true (by assumption)
      have q257 : x4_1 < (l0.length : Int) := of_decide_eq_true (by assumption)
      obtain ⟨ad257, e257, hx257_0, hx257_1, hx257_2, hx257_3⟩ := at_T64 HR0.out x4_1 p257 q257
      cases e257
      replace hx257_0 := (HB.out.cell (World.block_lt_of_cell? w _ hx257_0)).trans hx257_0
      replace hx257_1 := (HB.out.cell (World.block_lt_of_cell? w _ hx257_1)).trans hx257_1
      replace hx257_2 := (HB.out.cell (World.block_lt_of_cell? w _ hx257_2)).trans hx257_2
      replace hx257_3 := (HB.out.cell (World.block_lt_of_cell? w _ hx257_3)).trans hx257_3
      replace p257 := eq_true p257
      replace q257 := eq_true q257
      go_wp2_with (first | ((with_reducible refine gate_builtin (b := .append) (xs := #[.tmp 11, .tmp 16]) rfl ?_); at_builtin; refine Kd.R_append k65 (w0 := w) w.heap.size rfl (.tmp 11) (.tmp 16) 31 65 (.agg #[(.int .i64 0), (.int .i64 0), (.int .i64 0), (.int .i64 0)]) 32 rfl Try.underlying31 info65 rfl (by decide) (by omega) u3 x3_1 (⟨(rd_T64 l0 x4_1).f0, (rd_T64 l0 x4_1).f1, (rd_T64 l0 x4_1).f2, (rd_T64 l0 x4_1).f3⟩ : S65) [.int .i64 ((rd_T64 l0 x4_1).f0), .int .i64 ((rd_T64 l0 x4_1).f1), .int .i64 ((rd_T64 l0 x4_1).f2), .int .i64 ((rd_T64 l0 x4_1).f3)] (fun _ => True) (fun _ => False) rfl rfl ?aP (fun _ hk => hk.elim) ?aF ?aO ?aB ?aS ?aL ?_; (case aP => exact k65_mkM _ _ _ (⟨(rd_T64 l0 x4_1).f0, (rd_T64 l0 x4_1).f1, (rd_T64 l0 x4_1).f2, (rd_T64 l0 x4_1).f3⟩ : S65)); (case aB => exact (by repeat (first | (with_reducible first | exact HB.out | apply wa | apply wn | apply wd) | exact HB.out))); (case aF => exact (fun _ _ => trivial)); (case aO => exact (by (with_reducible repeat (first | apply Kd.R_alloc | apply Kd.R_drewN | apply Kd.R_drew)); exact HO_3.out)); (case aS => exact (below_size (by repeat (first | (with_reducible first | exact HB.out | apply wa | apply wn | apply wd) | exact HB.out)))); (case aL => have := LMc4.out; omega); intro v259 w5 ho hb hg hat; rw [← Ny258.out] at ho; have n0_ := asd (hb); have n1_ := asd (ho); clear HB; clear HO_3; have HB := n0_; have HO260 := n1_; clear n0_ n1_; clear ho hb hg hat))
      go_roundg k1
      case measure => have := HK1.out; omega
      case rel => exact ⟨(y258), (wrap64 (x4_1 + 1)), (by first | rfl | (simp; done) | (simp [*]; done)), H', ⟨by have := HK1.out; omega⟩, ⟨by (with_reducible repeat (first | apply Kd.R_alloc | apply Kd.R_drewN | apply Kd.R_drew)); exact HO260.out⟩, ⟨by repeat (first | (with_reducible first | exact HB.out | apply wa | apply wn | apply wd) | exact HB.out)⟩⟩
     ·rw [if_neg c4] at H
      exact absurd H (by simp)
    ·rw [if_neg c3] at H
     exact absurd H (by simp)
   ·rw [if_neg c2] at H
    have c2b0 : decide (x4_1 < (l0.length : Int)) = false := decide_eq_false c2
    clear c2
    obtain rfl := Option.some.inj H
    go_wp2
    go_ret
    exact ⟨_, by first | rfl | (simp [*] <;> rfl), by (with_reducible repeat (first | apply Kd.R_alloc | apply Kd.R_drewN | apply Kd.R_drew)); exact HO_3.out, by repeat (first | (with_reducible first | exact HB.out | apply wa | apply wn | apply wd) | exact HB.out)⟩
end Go.Proofs.Ytalimpniimgheaa.Fn
namespace Go.Proofs.Ytalimpniimgheaa.Fn
open Go.RowKit Go.Proofs.YtalimpniimgheaaW.PrintWords Go.Proofs.YtalimpniimgheaaW.PrintLast Go.Proofs.YtalimpniimgheaaW.PrintMore
attribute [local go_sem] max2_int min2_int max_two min_two max_three min_three max_four min_four
set_option linter.unusedVariables false
set_option linter.unusedSimpArgs false
def parcloselaw40_logs.l0 : Nat → List (List (S64)) → List (List (S65)) → Int → Option ((List (List (S65))))
 | 0, _, _, _ => none
 | k + 1, x0, x3, x4 => if x4 < (x0.length : Int) then (if 0 ≤ x4 then ((parcloselaw40_owns.f k (rd_L7 x0 x4)).bind fun t262 => (if x3.length < 5864062014805 then (parcloselaw40_logs.l0 k x0 (x3 ++ [t262]) (wrap64 (x4 + 1))) else (none))) else (none)) else (some x3)
def parcloselaw40_logs.f (k : Nat) (l0 : List (List (S64))) : Option ((List (List (S65)))) := parcloselaw40_logs.l0 k l0 ([] : List (List (S65))) 0
theorem parcloselaw40_logs.mono_l : ∀ k, (∀ y0 y1 y2, LeO (parcloselaw40_logs.l0 k y0 y1 y2) (parcloselaw40_logs.l0 (k + 1) y0 y1 y2))
 | 0 => fun _ _ _ r h => by simp [parcloselaw40_logs.l0] at h
 | k + 1 => by
  have ih0 := parcloselaw40_logs.mono_l k
  ·intro y0 y1 y2
   unfold parcloselaw40_logs.l0
   repeat' first
   | (with_reducible exact ih0 _ _ _)
   | (with_reducible exact parcloselaw40_owns.mono _ _)
   | (with_reducible exact LeO.refl _)
   | (with_reducible exact LeO.none _)
   | (with_reducible refine LeO.ite ?_ ?_)
   | (with_reducible refine LeO.bind ?_ (fun _ => ?_))
   | exact ih0 _ _ _
   | exact parcloselaw40_owns.mono _ _
   | exact LeO.none _
   | refine LeO.ite ?_ ?_
   | refine LeO.bind ?_ (fun _ => ?_)
set_option maxHeartbeats 8000000 in
set_option maxRecDepth 100000 in
theorem parcloselaw40_logs.calls (k : Nat) (A0 : Option Addr) (c0 : Nat) (l0 : List (List (S64))) (r : List (List (S65))) (w : World) (hr0 : Kd.C (Kd.slice 64 k64) w A0 l0.length l0) (hc0 : l0.length ≤ c0) (h : parcloselaw40_logs.f k l0 = some r) :
  Calls Try.prog 41 #[.slice A0 l0.length c0] w fun e w' => ∃ v0_ : Value, e = .returned (v0_) ∧ Kd.S (Kd.slice 65 k65) 31 w' w.heap.size (fun _ => True) v0_ r ∧ Below w.heap.size w w' := by
 have HR0 := asd hr0
 have HC0 := asd hc0
 clear hr0 hc0
 have HB := asd (Below.refl w.heap.size w)
 have H : (parcloselaw40_logs.l0 k l0 ([] : List (List (S65))) 0) = some r := h
 clear h
 have H' := asd H
 clear H
 go_enter Try.func41, Try.ntmps41
 go_wp2
 go_loopg [3, 4] k (fun kq v3 v4 w' => ∃ (x3_1 : List (List (S65))) (x4_1 : Int), v4 = .int .i64 x4_1 ∧ Aside0 (parcloselaw40_logs.l0 kq l0 x3_1 x4_1 = some r) ∧ Aside0 (kq ≤ k) ∧ Aside0 (Kd.S (Kd.slice 65 k65) 31 w' w.heap.size (fun _ => True) v3 x3_1) ∧ Aside0 (Below w.heap.size w w'))
 case atStart => exact ⟨(([] : List (List (S65)))), (0), (by first | rfl | (simp; done) | (simp [*]; done)), H', ⟨Nat.le_refl _⟩, ⟨by first | exact Kd.S_nil _ _ _ _ _ | exact Kd.N_nil _ _ _ _ _ | exact Kd.V_nil _ _ _ _ _ | exact Kd.Q_nil _ _ _ _ _ | exact Kd.R_nil _ _ _ _ _⟩, ⟨by repeat (first | (with_reducible first | exact HB.out | apply wa | apply wn | apply wd) | exact HB.out)⟩⟩
 case round =>
  clear H'
  obtain ⟨x3_1, x4_1, rfl, HA, HK1, HO_3, HB⟩ := hrel
  cases gk with
  | zero => exact absurd HA.out (by simp [parcloselaw40_logs.l0])
  | succ k1 =>
   have H := HA.out
   clear HA
   simp only [parcloselaw40_logs.l0] at H
   by_cases c2 : x4_1 < (l0.length : Int)
   ·rw [if_pos c2] at H
    have c2b0 : decide (x4_1 < (l0.length : Int)) = true := decide_eq_true c2
    clear c2
    by_cases c3 : 0 ≤ x4_1
    ·rw [if_pos c3] at H
     have c3b0 : decide (0 ≤ x4_1) = true := decide_eq_true c3
     clear c3
     replace H := Option.bind_eq_some_iff.mp H
     obtain ⟨t262, A40, H⟩ := H
     replace H : (if x3_1.length < 5864062014805 then (parcloselaw40_logs.l0 k1 l0 (x3_1 ++ [t262]) (wrap64 (x4_1 + 1))) else (none)) = some r := H
     have A4 := asd A40
     clear A40
     by_cases c5 : x3_1.length < 5864062014805
     ·rw [if_pos c5] at H
      have LMc5 := asd c5
      clear c5
      obtain ⟨y265, hy265⟩ : ∃ y_ : List (List (S65)), y_ = (x3_1 ++ [t262]) := ⟨_, rfl⟩
      replace H : (parcloselaw40_logs.l0 k1 l0 y265 (wrap64 (x4_1 + 1))) = some r := by first | (rw [hy265]; with_reducible exact H) | (have H2_ := (Option.bind_some _ _).symm.trans H; rw [hy265]; with_reducible exact H2_) | (have H2_ := (Option.bind_some _ _).symm.trans H; with_reducible exact H2_) | with_reducible exact H | (rw [hy265]; exact H) | exact H
      have Ny265 := asd hy265
      clear hy265
      have H' := asd H
      clear H
      have p261 : 0 ≤ (x4_1 : Int) := of_decide_eq_true (by assumption)
      have q261 : x4_1 < (l0.length : Int) := of_decide_eq_true (by assumption)
      obtain ⟨ad261, A261_0, c261_0, e261, hx261_0, hl261_0, hi261_0⟩ := at_L7 HR0.out x4_1 p261 q261
      cases e261
      replace hx261_0 := (HB.out.cell (World.block_lt_of_cell? w _ hx261_0)).trans hx261_0
      have HR261_0 := asd hi261_0
      have HC261_0 := asd hl261_0
      clear hi261_0 hl261_0
      replace p261 := eq_true p261
      replace q261 := eq_true q261
      go_wp2_with (first | ((with_reducible refine gate_callee (f := 82) rfl ?_); refine goesL_ (some 16) rfl rfl Try.func82 (by kernel_rfl) rfl #[.slice A261_0 (rd_L7 l0 x4_1).length c261_0] rfl (by (try simp only [List.map_toArray, List.map_cons, List.map_nil]); first | done | rfl | (simp only [List.length_drop, List.length_take]; rfl)) ?_; (with_reducible refine (parcloselaw40_owns.calls k1 _ _ (rd_L7 l0 x4_1) t262 _ ?side1 ?side2 A4.out).mono ?_); (case side1 => repeat (first | exact (Kd.C_below HR261_0.out HB.out) | (with_reducible refine Kd.C_alloc ?_ _) | (with_reducible refine Kd.C_drewN ?_ _) | (with_reducible refine Kd.C_drew ?_))); (case side2 => exact HC261_0.out); rintro e w6 ⟨v263, rfl, ho0, hb⟩; refine ⟨_, rfl, ?_⟩; have n0_ := asd (Kd.S_elder' (by (with_reducible repeat (first | apply Kd.S_alloc | apply Kd.S_drewN | apply Kd.S_drew)); exact HO_3.out) (Kd.R_base ho0) hb); have n1_ := asd (Kd.R_lower ho0 (below_size (by repeat (first | (with_reducible first | exact HB.out | apply wa | apply wn | apply wd) | exact HB.out)))); have n2_ := asd (below_step (by repeat (first | (with_reducible first | exact HB.out | apply wa | apply wn | apply wd) | exact HB.out)) hb); clear HO_3; clear HB; have HO_3 := n0_; have HO264 := n1_; have HB := n2_; clear n0_ n1_ n2_; (try clear hb); (try clear hb2); (try clear hk); (try clear hi); (try clear ho0); obtain ⟨Ao8, co8, eo8⟩ := Kd.R_slice HO264.out; subst eo8) | ((with_reducible refine gate_builtin (b := .append) (xs := #[.tmp 11, .tmp 17]) rfl ?_); at_builtin; refine Kd.S_append (Kd.slice 65 k65) (w0 := w) w.heap.size rfl (.tmp 11) (.tmp 17) 58 31 (.slice none 0 0) 24 rfl Try.underlying58 info31 rfl (by decide) (by omega) u3 x3_1 t262 [.slice Ao8 t262.length co8] (fun _ => True) (fun k_ => some k_ = (.slice Ao8 t262.length co8 : Value).ownBlock) rfl rfl ?aP (fun k_ hk_ => ((Kd.R_mono (ok' := fun k_ => ((fun _ => True)) k_ ∧ some k_ ≠ (u3 : Value).ownBlock) (Kd.R_apart' (HO264.out) (Kd.S_typed HO_3.out) (by decide)) (fun k_ hk => ⟨trivial, hk.2⟩))).1 k_ hk_.symm) ?aF ?aO ?aB ?aS ?aL ?_; (case aP => exact Kd.M_row (Kd.R_mono (Kd.R_tight rfl (Kd.R_mono (ok' := fun k_ => ((fun _ => True)) k_ ∧ some k_ ≠ (u3 : Value).ownBlock) (Kd.R_apart' (HO264.out) (Kd.S_typed HO_3.out) (by decide)) (fun k_ hk => ⟨trivial, hk.2⟩))) (fun _ h_ => h_))); (case aB => exact (by repeat (first | (with_reducible first | exact HB.out | apply wa | apply wn | apply wd) | exact HB.out))); (case aF => exact (fun _ _ => trivial)); (case aO => exact (by (with_reducible repeat (first | apply Kd.S_alloc | apply Kd.S_drewN | apply Kd.S_drew)); exact Kd.S_mono HO_3.out (fun k_ hk => ⟨trivial, fun e_ => hk.2 e_⟩))); (case aS => exact (below_size (by repeat (first | (with_reducible first | exact HB.out | apply wa | apply wn | apply wd) | exact HB.out)))); (case aL => have := LMc5.out; omega); intro v266 w7 ho hb hg hat; rw [← Ny265.out] at ho; have n0_ := asd (hb); have n1_ := asd (ho); clear HB; clear HO_3; clear HO264; have HB := n0_; have HO267 := n1_; clear n0_ n1_; clear ho hb hg hat))
      go_roundg k1
      case measure => have := HK1.out; omega
      case rel => exact ⟨(y265), (wrap64 (x4_1 + 1)), (by first | rfl | (simp; done) | (simp [*]; done)), H', ⟨by have := HK1.out; omega⟩, ⟨by (with_reducible repeat (first | apply Kd.S_alloc | apply Kd.S_drewN | apply Kd.S_drew)); exact HO267.out⟩, ⟨by repeat (first | (with_reducible first | exact HB.out | apply wa | apply wn | apply wd) | exact HB.out)⟩⟩
     ·rw [if_neg c5] at H
      exact absurd H (by simp)
    ·rw [if_neg c3] at H
     exact absurd H (by simp)
   ·rw [if_neg c2] at H
    have c2b0 : decide (x4_1 < (l0.length : Int)) = false := decide_eq_false c2
    clear c2
    obtain rfl := Option.some.inj H
    go_wp2
    go_ret
    exact ⟨_, by first | rfl | (simp [*] <;> rfl), by (with_reducible repeat (first | apply Kd.S_alloc | apply Kd.S_drewN | apply Kd.S_drew)); exact HO_3.out, by repeat (first | (with_reducible first | exact HB.out | apply wa | apply wn | apply wd) | exact HB.out)⟩
end Go.Proofs.Ytalimpniimgheaa.Fn
namespace Go.Proofs.Ytalimpniimgheaa.Fn
open Go.RowKit Go.Proofs.YtalimpniimgheaaW.PrintWords Go.Proofs.YtalimpniimgheaaW.PrintLast Go.Proofs.YtalimpniimgheaaW.PrintMore
attribute [local go_sem] max2_int min2_int max_two min_two max_three min_three max_four min_four
set_option linter.unusedVariables false
set_option linter.unusedSimpArgs false
theorem eqA64 (d : Nat) (w : World) (x0 y0 : Int) (x1 y1 : Int) (x2 y2 : Int) (x3 y3 : Int) :
  (Op.equalIn (d + 2) 64 (.agg #[.int .i64 x0, .int .i64 x1, .int .i64 x2, .int .i64 x3]) (.agg #[.int .i64 y0, .int .i64 y1, .int .i64 y2, .int .i64 y3])).run Try.prog w = .ok (x0 == y0 && (x1 == y1 && (x2 == y2 && (x3 == y3)))) w := by
 refine eqA_of Try.underlying64 (by kernel_rfl) ?_
 refine eqf_cons (by rfl) (by go_simp; rfl) (by go_simp; rfl) (by go_simp) ?_
 refine eqf_cons (by rfl) (by go_simp; rfl) (by go_simp; rfl) (by go_simp) ?_
 refine eqf_cons (by rfl) (by go_simp; rfl) (by go_simp; rfl) (by go_simp) ?_
 exact eqf_last (by rfl) (by go_simp; rfl) (by go_simp; rfl) (by go_simp)
end Go.Proofs.Ytalimpniimgheaa.Fn
namespace Go.Proofs.Ytalimpniimgheaa.Fn
open Go.RowKit Go.Proofs.YtalimpniimgheaaW.PrintWords Go.Proofs.YtalimpniimgheaaW.PrintLast Go.Proofs.YtalimpniimgheaaW.PrintMore
attribute [local go_sem] max2_int min2_int max_two min_two max_three min_three max_four min_four
set_option linter.unusedVariables false
set_option linter.unusedSimpArgs false
attribute [local go_sem high] eqA64
def parcloselaw40_same.l0 : Nat → List (S67) → List (S117) → Int → Option (Bool)
 | 0, _, _, _ => none
 | k + 1, x0, x1, x5 => if x5 < (x0.length : Int) then (if 0 ≤ x5 then (if x5 < (x1.length : Int) then (if ((rd_T67 x0 x5).f0) = ((rd_T117 x1 x5).f0) then (if (!(((rd_T67 x0 x5).f1.f0) == ((rd_T117 x1 x5).f1.f0)) || (!(((rd_T67 x0 x5).f1.f1) == ((rd_T117 x1 x5).f1.f1)) || (!(((rd_T67 x0 x5).f1.f2) == ((rd_T117 x1 x5).f1.f2)) || (!(((rd_T67 x0 x5).f1.f3) == ((rd_T117 x1 x5).f1.f3)))))) = true then (some false) else (parcloselaw40_same.l0 k x0 x1 (wrap64 (x5 + 1)))) else (some false)) else (none)) else (none)) else (some true)
def parcloselaw40_same.f (k : Nat) (l0 : List (S67)) (l1 : List (S117)) : Option (Bool) := if (l0.length : Int) = (l1.length : Int) then (parcloselaw40_same.l0 k l0 l1 0) else (some false)
end Go.Proofs.Ytalimpniimgheaa.Fn
namespace Go.Proofs.Ytalimpniimgheaa.Fn
open Go.RowKit Go.Proofs.YtalimpniimgheaaW.PrintWords Go.Proofs.YtalimpniimgheaaW.PrintLast Go.Proofs.YtalimpniimgheaaW.PrintMore
set_option linter.unusedVariables false
set_option linter.unusedSimpArgs false
theorem w64n (i : Nat) (h : i ≤ 1000000000) : wrap64 ((i : Int) + 1) = ((i + 1 : Nat) : Int) := by unfold wrap64; omega
theorem few_go (yss : List (List S64)) : ∀ n (i : Nat), yss.length - i = n → i ≤ yss.length → i ≤ 100 → (∀ j, j < i → (yss.getD j []).length ≤ 40) → ∃ k b, parcloselaw40_few.l0 k yss (i : Int) = some b ∧ (b = true → yss.length ≤ 70 ∧ ∀ j, j < yss.length → (yss.getD j []).length ≤ 40) := by
 intro n
 induction n with
 | zero =>
  intro i hn hi h1 h
  refine ⟨2, decide ((yss.length : Int) ≤ 70), ?_, fun hb => ⟨by have := of_decide_eq_true hb; omega, fun j hj => h j (by omega)⟩⟩
  unfold parcloselaw40_few.l0
  rw [if_neg (by omega)]
  unfold parcloselaw40_few.j1
  rw [if_neg (by simp)]
 | succ n ih =>
  intro i hn hi h1 h
  by_cases h100 : i < 100
  ·by_cases hlen : (yss.getD i []).length ≤ 40
   ·obtain ⟨k, b, hk, hb⟩ := ih (i + 1) (by omega) (by omega) (by omega) (fun j hj => by
     by_cases e : j = i
     ·subst e; exact hlen
     ·exact h j (by omega))
    refine ⟨k + 2, b, ?_, hb⟩
    unfold parcloselaw40_few.l0
    rw [if_pos (by omega)]
    unfold parcloselaw40_few.j1
    rw [if_pos (decide_eq_true (by omega)), if_pos (by omega), if_pos (by omega), if_neg (by unfold rd_L7; rw [Int.toNat_natCast]; omega), w64n i (by omega)]
    exact hk
   ·refine ⟨2, false, ?_, fun hb => by cases hb⟩
    unfold parcloselaw40_few.l0
    rw [if_pos (by omega)]
    unfold parcloselaw40_few.j1
    rw [if_pos (decide_eq_true (by omega)), if_pos (by omega), if_pos (by omega), if_pos (by unfold rd_L7; rw [Int.toNat_natCast]; omega)]
  ·refine ⟨2, decide ((yss.length : Int) ≤ 70), ?_, fun hb => by have := of_decide_eq_true hb; omega⟩
   unfold parcloselaw40_few.l0
   rw [if_pos (by omega)]
   unfold parcloselaw40_few.j1
   rw [if_neg (by simp; omega)]
theorem few_ev (yss : List (List S64)) : ∃ k b, parcloselaw40_few.f k yss = some b ∧ (b = true → yss.length ≤ 70 ∧ ∀ j, j < yss.length → (yss.getD j []).length ≤ 40) := few_go yss _ 0 rfl (Nat.zero_le _) (by omega) (fun j hj => absurd hj (by omega))
def row117 (p : Nat × S64) : S117 := ⟨p.1, p.2⟩
theorem take_succ_map {α β : Type} (f : α → β) (l : List α) (d : α) (i : Nat) (h : i < l.length) : (l.take i).map f ++ [f (l.getD i d)] = (l.take (i + 1)).map f := by
 rw [List.take_succ_eq_append_getElem h, List.map_append]; simp [List.getD, h]
theorem owns_go (l : List S64) (hl : l.length ≤ 100000) : ∀ n (i : Nat), l.length - i = n → i ≤ l.length → ∃ k, parcloselaw40_owns.l0 k l ((l.take i).map e65) (i : Int) = some (l.map e65) := by
 intro n
 induction n with
 | zero =>
  intro i hn hi
  refine ⟨1, ?_⟩
  unfold parcloselaw40_owns.l0
  rw [if_neg (by omega), List.take_of_length_le (by omega)]
 | succ n ih =>
  intro i hn hi
  obtain ⟨k, hk⟩ := ih (i + 1) (by omega) (by omega)
  refine ⟨k + 1, ?_⟩
  have e1 : rd_T64 l (i : Int) = l.getD i z64 := by unfold rd_T64; rw [Int.toNat_natCast]
  unfold parcloselaw40_owns.l0
  rw [if_pos (by omega), if_pos (by omega), if_pos (by rw [List.length_map, List.length_take]; omega), e1, w64n i (by omega)]
  rw [← take_succ_map e65 l z64 i (by omega)] at hk
  exact hk
theorem owns_ev (l : List S64) (hl : l.length ≤ 100000) : ∃ k, parcloselaw40_owns.f k l = some (l.map e65) := owns_go l hl _ 0 rfl (Nat.zero_le _)
theorem up_to {α : Type} {g : Nat → Option α} (hm : ∀ k, LeO (g k) (g (k + 1))) {r : α} {k : Nat} (h : g k = some r) : ∀ d, g (k + d) = some r
 | 0 => h
 | d + 1 => hm (k + d) r (up_to hm h d)
theorem logs_go (l : List (List S64)) (hl : l.length ≤ 100000) (hb : ∀ i, (l.getD i []).length ≤ 100000) : ∀ n (i : Nat), l.length - i = n → i ≤ l.length → ∃ k, parcloselaw40_logs.l0 k l ((l.take i).map (·.map e65)) (i : Int) = some (l.map (·.map e65)) := by
 intro n
 induction n with
 | zero =>
  intro i hn hi
  refine ⟨1, ?_⟩
  unfold parcloselaw40_logs.l0
  rw [if_neg (by omega), List.take_of_length_le (by omega)]
 | succ n ih =>
  intro i hn hi
  obtain ⟨k, hk⟩ := ih (i + 1) (by omega) (by omega)
  obtain ⟨k2, hk2⟩ := owns_ev (l.getD i []) (hb i)
  have e1 : rd_L7 l (i : Int) = l.getD i [] := by unfold rd_L7; rw [Int.toNat_natCast]
  have h1 := up_to (g := fun k => parcloselaw40_owns.f k (l.getD i [])) (fun k => parcloselaw40_owns.mono _ k) hk2 k
  have h2 := up_to (g := fun k => parcloselaw40_logs.l0 k l ((l.take (i + 1)).map (·.map e65)) ((i + 1 : Nat) : Int)) (fun k => parcloselaw40_logs.mono_l k _ _ _) hk k2
  refine ⟨k + k2 + 1, ?_⟩
  unfold parcloselaw40_logs.l0
  rw [if_pos (by omega), if_pos (by omega), e1]
  simp only [Nat.add_comm k2 k] at h1
  rw [show parcloselaw40_owns.f (k + k2) (l.getD i []) = some ((l.getD i []).map e65) from h1]
  simp only [Option.bind_some]
  rw [if_pos (by rw [List.length_map, List.length_take]; omega), w64n i (by omega)]
  have h3 := take_succ_map (·.map e65) l [] i (by omega)
  rw [← h3] at h2
  exact h2
theorem logs_ev (l : List (List S64)) (hl : l.length ≤ 100000) (hb : ∀ i, (l.getD i []).length ≤ 100000) : ∃ k, parcloselaw40_logs.f k l = some (l.map (·.map e65)) := logs_go l hl hb _ 0 rfl (Nat.zero_le _)
end Go.Proofs.Ytalimpniimgheaa.Fn
namespace Go.Proofs.Ytalimpniimgheaa.Fn
open Go.RowKit Go.Proofs.YtalimpniimgheaaW.PrintWords Go.Proofs.YtalimpniimgheaaW.PrintLast Go.Proofs.YtalimpniimgheaaW.PrintMore
attribute [local go_sem] max2_int min2_int max_two min_two max_three min_three max_four min_four
set_option linter.unusedVariables false
set_option linter.unusedSimpArgs false
mutual
def parcloseref40_Logs.l0 : Nat → List (List (S64)) → List Int → List (S117) → Option ((List (S117)))
 | 0, _, _, _ => none
 | k + 1, x0, x3, x4 => parcloseref40_Logs.l1 k x0 x3 x4 (-1) 0
def parcloseref40_Logs.l1 : Nat → List (List (S64)) → List Int → List (S117) → Int → Int → Option ((List (S117)))
 | 0, _, _, _, _, _ => none
 | k + 1, x0, x3, x4, x5, x6 => if x6 < (x0.length : Int) then (if 0 ≤ x6 then (if x6 < (x3.length : Int) then (if (rd x3 x6) < ((rd_L7 x0 x6).length : Int) then (if x5 < 0 then (parcloseref40_Logs.l1 k x0 x3 x4 x6 (wrap64 (x6 + 1))) else (if 0 ≤ (rd x3 x6) then (if 0 ≤ x5 then (if x5 < (x0.length : Int) then (if x5 < (x3.length : Int) then (if 0 ≤ (rd x3 x5) then (if (rd x3 x5) < ((rd_L7 x0 x5).length : Int) then (if ((rd_T64 (rd_L7 x0 x6) (rd x3 x6)).f0) < ((rd_T64 (rd_L7 x0 x5) (rd x3 x5)).f0) then (parcloseref40_Logs.l1 k x0 x3 x4 x6 (wrap64 (x6 + 1))) else (parcloseref40_Logs.l1 k x0 x3 x4 x5 (wrap64 (x6 + 1)))) else (none)) else (none)) else (none)) else (none)) else (none)) else (none))) else (parcloseref40_Logs.l1 k x0 x3 x4 x5 (wrap64 (x6 + 1)))) else (none)) else (none)) else (if x5 < 0 then (some x4) else (if 0 ≤ x5 then (if x5 < (x0.length : Int) then (if x5 < (x3.length : Int) then (if 0 ≤ (rd x3 x5) then (if (rd x3 x5) < ((rd_L7 x0 x5).length : Int) then (if x4.length < 3518437208883 then (parcloseref40_Logs.l0 k x0 (x3.set (x5 : Int).toNat (wrap64 ((rd x3 x5) + 1))) (x4 ++ [(⟨x5, (⟨(rd_T64 (rd_L7 x0 x5) (rd x3 x5)).f0, (rd_T64 (rd_L7 x0 x5) (rd x3 x5)).f1, (rd_T64 (rd_L7 x0 x5) (rd x3 x5)).f2, (rd_T64 (rd_L7 x0 x5) (rd x3 x5)).f3⟩ : S64)⟩ : S117)])) else (none)) else (none)) else (none)) else (none)) else (none)) else (none)))
end
def parcloseref40_Logs.f (k : Nat) (l0 : List (List (S64))) : Option ((List (S117))) := if 0 ≤ (mn (l0.length : Int) 64) then (if (mn (l0.length : Int) 64) ≤ (l0.length : Int) then ((some (l0.take ((mn (l0.length : Int) 64) : Int).toNat : List (List (S64)))).bind fun y268 => (if 0 ≤ (y268.length : Int) then (if ((y268.length : Int) : Int).toNat ≤ 35184372088832 then (parcloseref40_Logs.l0 k y268 (List.replicate ((y268.length : Int) : Int).toNat 0) ([] : List (S117))) else (none)) else (none))) else (none)) else (none)
def parcloseref40_Logs.T8 : Bool × List (List Nat × List Nat) := (true, [([], []), ([], []), ([0, 1], [0, 1]), ([2], [2]), ([], []), ([], []), ([4, 5], [4, 5]), ([6], [6]), ([7], [7]), ([3, 8], [3, 8]), ([9], [9]), ([10], [10]), ([11, 10], [10, 11]), ([12, 10, 10], [10, 12]), ([13], [13]), ([13], [13]), ([14, 15, 13], [13, 14, 15]), ([16, 13], [13, 16]), ([13], [13]), ([13], [13]), ([18, 19, 13], [13, 18, 19]), ([20, 13], [13, 20]), ([17, 21, 13], [13, 17, 21]), ([22, 13], [13, 22]), ([23, 13], [13, 23]), ([13], [13]), ([13], [13]), ([25, 26, 13], [13, 25, 26]), ([27, 13], [13, 27]), ([13], [13]), ([13], [13]), ([29, 30, 13], [13, 29, 30]), ([31, 13], [13, 31]), ([28, 32, 13], [13, 28, 32]), ([33, 13], [13, 33]), ([34, 13], [13, 34]), ([24, 35, 13], [13, 24, 35]), ([13, 36, 10], [10, 13, 36]), ([10, 37], [10, 37])])
def parcloseref40_Logs.B8 : List Nat := [0, 0, 3, 7, 0, 0, 48, 112, 240, 511, 1023, 2047, 4095, 8191, 16383, 16383, 65535, 131071, 16383, 16383, 802815, 1851391, 4194303, 8388607, 16777215, 16383, 16383, 100679679, 234897407, 16383, 16383, 1610629119, 3758112767, 8556396543, 17146331135, 34326200319, 68719476735, 137438953471, 274877906943]
def parcloseref40_Logs.T12 : Bool × List (List Nat × List Nat) := (true, [([], []), ([], []), ([], []), ([], []), ([2, 3], [2, 3]), ([4], [4]), ([], []), ([], []), ([6, 7], [6, 7]), ([8], [8]), ([5, 9], [5, 9]), ([10], [10]), ([1, 11], [1, 11]), ([12], [12]), ([0, 13], [0, 13]), ([14, 14, 0, 1, 2, 3, 4, 5, 6, 7, 8, 9, 10, 11, 12, 13, 14], [0, 14])])
def parcloseref40_Logs.B12 : List Nat := [0, 0, 0, 0, 12, 28, 0, 0, 192, 448, 1020, 2044, 4094, 8190, 16383, 32767]
end Go.Proofs.Ytalimpniimgheaa.Fn
namespace Go.Proofs.Ytalimpniimgheaa.Fn
open Go.RowKit Go.Proofs.YtalimpniimgheaaW.PrintWords Go.Proofs.YtalimpniimgheaaW.PrintLast Go.Proofs.YtalimpniimgheaaW.PrintMore
set_option linter.unusedVariables false
set_option linter.unusedSimpArgs false
def posI (pos : List Nat) : List Int := pos.map (fun n : Nat => (n : Int))
def Best (ys : List (List S64)) (pos : List Nat) (i : Nat) (b : Int) : Prop := (b = -1 ∧ ∀ j, j < i → ¬ Av ys pos j) ∨ ∃ c : Nat, b = c ∧ c < i ∧ Av ys pos c ∧ ∀ j, j < i → Av ys pos j → (entO ys pos c).f0 < (entO ys pos j).f0 ∨ ((entO ys pos c).f0 = (entO ys pos j).f0 ∧ c ≤ j)
end Go.Proofs.Ytalimpniimgheaa.Fn
