/- Part of the proof of GanttCounts: see the last text. (Words laid by the print, as far as they are named here; walks written by a program of this project; plain laws.) -/
import Derived.Test.YtalimpniimgheaaGanttCountsZ0
namespace Go.Proofs.Ytalimpniimgheaa.Fn
open Go.RowKit Go.Proofs.YtalimpniimgheaaW.PrintWords Go.Proofs.YtalimpniimgheaaW.PrintLast Go.Proofs.YtalimpniimgheaaW.PrintMore
abbrev bn := @blk_drewN
abbrev bd := @blk_drew
abbrev ba := @blk_alloc
abbrev asd := @Aside0.mk
abbrev wa := @below_alloc
abbrev wn := @pw_below_drewN
abbrev wd := @below_drew1
abbrev ws := @below_set
theorem sB : (∀ (l : List Value) (i : Nat) (a : Value), l.toArray.setIfInBounds i a = (l.set i a).toArray) ∧ (∀ (a b : Value) (l : List Value), (a :: l).set 0 b = b :: l) ∧ (∀ (a b : Value) (l : List Value) (n : Nat), (a :: l).set (n + 1) b = a :: l.set n b) := ⟨fun _ _ _ => List.setIfInBounds_toArray .., fun _ _ _ => rfl, fun _ _ _ _ => rfl⟩
end Go.Proofs.Ytalimpniimgheaa.Fn

namespace Go.Proofs.Ytalimpniimgheaa.Fn
open Go.RowKit Go.Proofs.YtalimpniimgheaaW.PrintWords Go.Proofs.YtalimpniimgheaaW.PrintLast Go.Proofs.YtalimpniimgheaaW.PrintMore
attribute [local go_sem] max2_int min2_int max_two min_two max_three min_three max_four min_four
set_option linter.unusedVariables false
set_option linter.unusedSimpArgs false
def errW : Option Int → Value
 | none => .nilIface
 | some c => .iface 0 (.int .i64 c)
theorem errW_none : errW none = .nilIface := rfl
theorem errW_some (c : Int) : errW (some c) = .iface 0 (.int .i64 c) := rfl
theorem info5 : (Try.prog.info? 5).map (fun i => (i.zero, i.size, i.bytes)) = some (some (.int .u8 0), 1, 1) := by kernel_rfl
theorem info65 : (Try.prog.info? 65).map (fun i => (i.zero, i.size, i.bytes)) = some (some (.agg #[(.int .i64 0), (.int .i64 0), (.int .i64 0), (.int .i64 0)]), 4, 32) := by kernel_rfl
theorem info97 : (Try.prog.info? 97).map (fun i => (i.zero, i.size, i.bytes)) = some (some (.agg #[(.int .i64 0), (.int .i64 0), (.int .i64 0), (.int .i64 0)]), 4, 32) := by kernel_rfl
structure S65 where
 f0 : Int
 f1 : Int
 f2 : Int
 f3 : Int
def z65 : S65 := ⟨(0 : Int), (0 : Int), (0 : Int), (0 : Int)⟩
def k65 : Kd S65 := Kd.iso (Kd.pair (Kd.int .i64) (Kd.pair (Kd.int .i64) (Kd.pair (Kd.int .i64) (Kd.int .i64)))) (fun x : S65 => (x.f0, x.f1, x.f2, x.f3))
theorem k65_open {w : World} {x : S65} {cs : List Value} (h : k65.K w x cs) : cs = [.int .i64 x.f0, .int .i64 x.f1, .int .i64 x.f2, .int .i64 x.f3] := by
 obtain ⟨_, _, rfl, rfl, ⟨_, _, rfl, rfl, ⟨_, _, rfl, rfl, rfl⟩⟩⟩ := h
 exact rfl
theorem k65_mkM (w : World) (base : Nat) (ok : Nat → Prop) (x : S65)  : k65.M w base ok x [.int .i64 x.f0, .int .i64 x.f1, .int .i64 x.f2, .int .i64 x.f3] := ⟨[.int .i64 x.f0], [.int .i64 x.f1, .int .i64 x.f2, .int .i64 x.f3], rfl, rfl, ⟨[.int .i64 x.f1], [.int .i64 x.f2, .int .i64 x.f3], rfl, rfl, ⟨[.int .i64 x.f2], [.int .i64 x.f3], rfl, rfl, rfl⟩⟩⟩
def rd_T65 (xs : List S65) (i : Int) : S65 := xs.getD i.toNat z65
theorem at_T65 {w : World} {A : Option Addr} {n : Nat} {xs : List S65} (h : Kd.C k65 w A n xs) (i : Int) (h0 : 0 ≤ i) (h1 : i < n) : ∃ ad , A = some ad ∧ w.cell? (ad.add (i.toNat * 4)) = some (.int .i64 (rd_T65 xs i).f0) ∧ w.cell? ⟨(ad.add (i.toNat * 4)).block, (ad.add (i.toNat * 4)).off + 1, none⟩ = some (.int .i64 (rd_T65 xs i).f1) ∧ w.cell? ⟨(ad.add (i.toNat * 4)).block, (ad.add (i.toNat * 4)).off + 2, none⟩ = some (.int .i64 (rd_T65 xs i).f2) ∧ w.cell? ⟨(ad.add (i.toNat * 4)).block, (ad.add (i.toNat * 4)).off + 3, none⟩ = some (.int .i64 (rd_T65 xs i).f3) := by
 obtain ⟨ad, c, e, _, hK, hc0⟩ := Kd.C_get h z65 i h0 h1
 have hc : ∀ j u, c[j]? = some u → w.cell? (ad.add (i.toNat * 4 + j)) = some u := hc0
 obtain rfl := k65_open hK
 exact ⟨ad, e, hc 0 _ rfl, by rw [← add_field _ _ 1 (by omega)]; exact hc 1 _ rfl, by rw [← add_field _ _ 2 (by omega)]; exact hc 2 _ rfl, by rw [← add_field _ _ 3 (by omega)]; exact hc 3 _ rfl⟩
structure S64 where
 f0 : Int
 f1 : Int
 f2 : Int
 f3 : Int
def z64 : S64 := ⟨(0 : Int), (0 : Int), (0 : Int), (0 : Int)⟩
def k64 : Kd S64 := Kd.iso (Kd.pair (Kd.int .i64) (Kd.pair (Kd.int .i64) (Kd.pair (Kd.int .i64) (Kd.int .i64)))) (fun x : S64 => (x.f0, x.f1, x.f2, x.f3))
def rd_T64 (xs : List S64) (i : Int) : S64 := xs.getD i.toNat z64
structure S97 where
 f0 : Int
 f1 : Int
 f2 : Int
 f3 : Int
def z97 : S97 := ⟨(0 : Int), (0 : Int), (0 : Int), (0 : Int)⟩
def k97 : Kd S97 := Kd.iso (Kd.pair (Kd.int .i64) (Kd.pair (Kd.int .i64) (Kd.pair (Kd.int .i64) (Kd.int .i64)))) (fun x : S97 => (x.f0, x.f1, x.f2, x.f3))
theorem k97_open {w : World} {x : S97} {cs : List Value} (h : k97.K w x cs) : cs = [.int .i64 x.f0, .int .i64 x.f1, .int .i64 x.f2, .int .i64 x.f3] := by
 obtain ⟨_, _, rfl, rfl, ⟨_, _, rfl, rfl, ⟨_, _, rfl, rfl, rfl⟩⟩⟩ := h
 exact rfl
theorem k97_openM {w : World} {base : Nat} {ok : Nat → Prop} {x : S97} {cs : List Value} (h : k97.M w base ok x cs) : cs = [.int .i64 x.f0, .int .i64 x.f1, .int .i64 x.f2, .int .i64 x.f3] := by
 obtain ⟨_, _, rfl, rfl, ⟨_, _, rfl, rfl, ⟨_, _, rfl, rfl, rfl⟩⟩⟩ := h
 exact rfl
theorem k97_mkM (w : World) (base : Nat) (ok : Nat → Prop) (x : S97)  : k97.M w base ok x [.int .i64 x.f0, .int .i64 x.f1, .int .i64 x.f2, .int .i64 x.f3] := ⟨[.int .i64 x.f0], [.int .i64 x.f1, .int .i64 x.f2, .int .i64 x.f3], rfl, rfl, ⟨[.int .i64 x.f1], [.int .i64 x.f2, .int .i64 x.f3], rfl, rfl, ⟨[.int .i64 x.f2], [.int .i64 x.f3], rfl, rfl, rfl⟩⟩⟩
def rd_T97 (xs : List S97) (i : Int) : S97 := xs.getD i.toNat z97
theorem at_T97 {w : World} {A : Option Addr} {n : Nat} {xs : List S97} (h : Kd.C k97 w A n xs) (i : Int) (h0 : 0 ≤ i) (h1 : i < n) : ∃ ad , A = some ad ∧ w.cell? (ad.add (i.toNat * 4)) = some (.int .i64 (rd_T97 xs i).f0) ∧ w.cell? ⟨(ad.add (i.toNat * 4)).block, (ad.add (i.toNat * 4)).off + 1, none⟩ = some (.int .i64 (rd_T97 xs i).f1) ∧ w.cell? ⟨(ad.add (i.toNat * 4)).block, (ad.add (i.toNat * 4)).off + 2, none⟩ = some (.int .i64 (rd_T97 xs i).f2) ∧ w.cell? ⟨(ad.add (i.toNat * 4)).block, (ad.add (i.toNat * 4)).off + 3, none⟩ = some (.int .i64 (rd_T97 xs i).f3) := by
 obtain ⟨ad, c, e, _, hK, hc0⟩ := Kd.C_get h z97 i h0 h1
 have hc : ∀ j u, c[j]? = some u → w.cell? (ad.add (i.toNat * 4 + j)) = some u := hc0
 obtain rfl := k97_open hK
 exact ⟨ad, e, hc 0 _ rfl, by rw [← add_field _ _ 1 (by omega)]; exact hc 1 _ rfl, by rw [← add_field _ _ 2 (by omega)]; exact hc 2 _ rfl, by rw [← add_field _ _ 3 (by omega)]; exact hc 3 _ rfl⟩
structure S110 where
 f0 : Int
 f1 : Int
 f2 : Int
 f3 : Int
def z110 : S110 := ⟨(0 : Int), (0 : Int), (0 : Int), (0 : Int)⟩
def k110 : Kd S110 := Kd.iso (Kd.pair (Kd.int .i64) (Kd.pair (Kd.int .i64) (Kd.pair (Kd.int .i64) (Kd.int .i64)))) (fun x : S110 => (x.f0, x.f1, x.f2, x.f3))
def rd_T110 (xs : List S110) (i : Int) : S110 := xs.getD i.toNat z110
def rd_L7 (xs : List (List S64)) (i : Int) : (List S64) := xs.getD i.toNat ([] : List S64)
structure S67 where
 f0 : Int
 f1 : S65
def z67 : S67 := ⟨(0 : Int), z65⟩
def k67 : Kd S67 := Kd.iso (Kd.pair (Kd.int .i64) k65) (fun x : S67 => (x.f0, x.f1))
def rd_T67 (xs : List S67) (i : Int) : S67 := xs.getD i.toNat z67
structure S117 where
 f0 : Int
 f1 : S64
def z117 : S117 := ⟨(0 : Int), z64⟩
def k117 : Kd S117 := Kd.iso (Kd.pair (Kd.int .i64) k64) (fun x : S117 => (x.f0, x.f1))
def rd_T117 (xs : List S117) (i : Int) : S117 := xs.getD i.toNat z117
def rd_L10 (xs : List (List S65)) (i : Int) : (List S65) := xs.getD i.toNat ([] : List S65)
def rd_L11 (xs : List (List S97)) (i : Int) : (List S97) := xs.getD i.toNat ([] : List S97)
end Go.Proofs.Ytalimpniimgheaa.Fn
namespace Go.Proofs.Ytalimpniimgheaa.Fn
open Go.RowKit Go.Proofs.YtalimpniimgheaaW.PrintWords Go.Proofs.YtalimpniimgheaaW.PrintLast Go.Proofs.YtalimpniimgheaaW.PrintMore
set_option linter.unusedVariables false
set_option linter.unusedSimpArgs false
def Opens (P : Program) (t : TypeId) {α : Type} (d : Kd α) (Q : α → Prop) : Prop :=
 ∀ (H : Type) (enc : TypeId × Value → H) (w : World) (base : Nat) (spare : Nat → Bool) (held : Bool) (fuel : Nat) (cs : List Value) (x : DataW H × List MemPlace),
  DataW.trod enc P w base spare held fuel t cs = some x → ∃ a : α, d.K w a cs ∧ Q a
def qInt (k : IntKind) (n : Int) : Prop := (Lit.int k n).wf = true
def qAny {α : Type} (_ : α) : Prop := True
def qStr (s : ByteArray) : Prop := s.size ≤ maxLen
def qList {α : Type} (Q : α → Prop) (xs : List α) : Prop := xs.length ≤ maxLen ∧ ∀ x ∈ xs, Q x
theorem opens_int {P : Program} {t : TypeId} {k : IntKind} (ht : P.underlying t = some (.int k)) : Opens P t (Kd.int k) (qInt k) := by
 intro H enc w base spare held fuel cs x h
 obtain ⟨n, e, _, hw⟩ := DataW.trod_int ht h
 exact ⟨n, e, hw⟩
theorem list_of {α : Type} {p : Nat → α → Prop} : ∀ n, (∀ i, i < n → ∃ a, p i a) → ∃ xs : List α, xs.length = n ∧ ∀ i a, xs[i]? = some a → p i a
 | 0, _ => ⟨[], rfl, fun i a h => by simp at h⟩
 | n + 1, h => by
  obtain ⟨xs, hl, hx⟩ := list_of n (fun i hi => h i (by omega))
  obtain ⟨a, ha⟩ := h n (by omega)
  refine ⟨xs ++ [a], by simp [hl], fun i b hb => ?_⟩
  rcases Nat.lt_trichotomy i n with hi | hi | hi
  ·rw [List.getElem?_append_left (by omega)] at hb
   exact hx i b hb
  ·subst hi
   rw [← hl] at hb
   simp at hb
   subst hb
   rw [hl] at *
   exact ha
  ·rw [List.getElem?_eq_none (by simp [hl]; omega)] at hb
   cases hb
theorem opens_slice {P : Program} {t e : TypeId} {α : Type} {d : Kd α} {Q : α → Prop} (ht : P.underlying t = some (.slice e)) (hc : P.cellsOf e = d.sz) (ho : Opens P e d Q) : Opens P t (Kd.slice e d) (qList Q) := by
 intro H enc w base spare held fuel cs x h
 rcases Go.Deep.open_slice ht h with ⟨rfl, _⟩ | ⟨a, len, cap, m, n, D, Pl, rfl, _, hl, hm, hmm, _, hx⟩
 ·exact ⟨[], ⟨none, 0, rfl, Nat.le_refl _, Kd.C_nil _ _⟩, by simp, fun x hx => by cases hx⟩
 ·have hlm : len ≤ m := by rw [hmm]; split <;> omega
  obtain ⟨xs, hxl, hxs⟩ := list_of (p := fun i a' => ∃ cs', w.cells? base (a.add (i * P.cellsOf e)) (P.cellsOf e) = some cs' ∧ d.K w a' cs' ∧ Q a') len (fun i hi => by
   obtain ⟨cs', h1, h2⟩ := hx i (by omega)
   obtain ⟨a', h3, h4⟩ := ho H enc w base spare held n cs' _ h2
   exact ⟨a', cs', h1, h3, h4⟩)
  refine ⟨xs, ⟨some a, cap, by rw [hxl], by omega, ?_⟩, by omega, fun x hx => ?_⟩
  ·refine ⟨rfl, by rw [hxl]; unfold maxLen at hm; omega, fun _ => ⟨a, rfl, ?_⟩⟩
   intro j p hp
   obtain ⟨cs', h1, h2, _⟩ := hxs j p hp
   obtain ⟨_, hcl, hci⟩ := World.cells?_some h1
   refine ⟨cs', by rw [hcl, hc], h2, fun i u hu => ?_⟩
   have hi : i < cs'.length := (List.getElem?_eq_some_iff.1 hu).1
   have h4 := hci i (by omega)
   rw [hu, Go.Deep.add_add, hc] at h4
   exact h4
  ·obtain ⟨i, hi, rfl⟩ := List.mem_iff_getElem.1 hx
   obtain ⟨_, _, _, hq⟩ := hxs i _ (List.getElem?_eq_getElem hi)
   exact hq
end Go.Proofs.Ytalimpniimgheaa.Fn
namespace Go.Proofs.Ytalimpniimgheaa.Fn
open Go.RowKit Go.Proofs.YtalimpniimgheaaW.PrintWords Go.Proofs.YtalimpniimgheaaW.PrintLast Go.Proofs.YtalimpniimgheaaW.PrintMore
set_option linter.unusedVariables false
set_option linter.unusedSimpArgs false
structure Chg (S : Nat → Prop) (w w' : World) : Prop where
 os : w'.os = w.os
 tape : w'.tape = w.tape
 output : w'.output = w.output
 size : w.heap.size ≤ w'.heap.size
 block : ∀ k, k < w.heap.size → ¬ S k → w'.heap[k]? = w.heap[k]?
section
variable {S S2 : Nat → Prop} {w w1 w2 : World} {B : Nat}
theorem Chg.refl (S : Nat → Prop) (w : World) : Chg S w w := ⟨rfl, rfl, rfl, Nat.le_refl _, fun _ _ _ => rfl⟩
theorem Chg.then_ (h : Chg S w w1) (k : Chg S2 w1 w2) (hs : ∀ k, S2 k → S k ∨ w.heap.size ≤ k) : Chg S w w2 :=
 ⟨k.os.trans h.os, k.tape.trans h.tape, k.output.trans h.output, Nat.le_trans h.size k.size, fun i hi hn => (k.block i (Nat.lt_of_lt_of_le hi h.size) (fun h2 => (hs i h2).elim hn (fun h3 => by omega))).trans (h.block i hi hn)⟩
theorem Chg.trans (h : Chg S w w1) (k : Chg S w1 w2) : Chg S w w2 := h.then_ k (fun _ h => .inl h)
theorem Chg.mono (h : Chg S w w1) (hs : ∀ k, S k → S2 k) : Chg S2 w w1 := ⟨h.os, h.tape, h.output, h.size, fun i hi hn => h.block i hi (fun hk => hn (hs i hk))⟩
theorem Chg.of_below (h : Below w.heap.size w w1) (S : Nat → Prop) : Chg S w w1 := ⟨h.os, h.tape, h.output, h.size, fun i hi _ => h.block i hi⟩
theorem Chg.below (h : Chg S w w1) (k : Below w1.heap.size w1 w2) : Chg S w w2 := h.then_ (Chg.of_below k (fun _ => False)) (fun _ hk => hk.elim)
theorem Chg.alloc (h : Chg S w w1) (o : Obj) : Chg S w (w1.alloc o) := h.below (below_alloc (Below.refl _ _) o)
theorem Chg.drew (h : Chg S w w1) : Chg S w w1.drew := ⟨h.os, h.tape, h.output, h.size, h.block⟩
theorem Chg.drewN (h : Chg S w w1) (n : Nat) : Chg S w (w1.drewN n) := ⟨h.os, h.tape, h.output, h.size, h.block⟩
theorem Chg.grown (h : Chg S w w1) {row : Option Nat} (hg : w1.grownBy w2 row) (hr : ∀ k, row = some k → S k ∨ w.heap.size ≤ k) : Chg S w w2 :=
 h.then_ (S2 := fun k => row = some k) ⟨hg.os, hg.tape, hg.output, hg.size, fun i hi hn => hg.block i hi (fun he => hn he.symm)⟩ hr
def OfTypes (ts : List Nat) (w : World) (S : Nat → Prop) : Prop := ∀ k, S k → k < w.heap.size → ∃ t cells, t ∈ ts ∧ w.heap[k]? = some (.cells cells t (0, 0))
theorem C_ofR {α : Type} {d : Kd α} {e base n c : Nat} {ok : Nat → Prop} {A : Option Addr} {xs : List α} (h : d.R e w base ok (.slice A n c) xs) : d.C w A xs.length xs := (Kd.R_reads' h).2.2
theorem getD_lt {α : Type} (l : List α) (z : α) {n : Nat} (h : n < l.length) : l.getD n z = l[n] := by simp [List.getD, h]
theorem max2_mx (k k' : IntKind) (x y : Int) : Builtin.max2 (.int k x) (.int k' y) = pure (.int k (mx x y)) := by rw [max2_int]; rfl
theorem min2_mn (k k' : IntKind) (x y : Int) : Builtin.min2 (.int k x) (.int k' y) = pure (.int k (mn x y)) := by rw [min2_int]; rfl
end
end Go.Proofs.Ytalimpniimgheaa.Fn
namespace Go.Proofs.Ytalimpniimgheaa.Fn
open Go.RowKit Go.Proofs.YtalimpniimgheaaW.PrintWords Go.Proofs.YtalimpniimgheaaW.PrintLast Go.Proofs.YtalimpniimgheaaW.PrintMore
set_option linter.unusedVariables false
set_option linter.unusedSimpArgs false
attribute [local go_sem] max2_mx min2_mn max_two min_two
def IsLog (w : World) (base g : Nat) (A : Option Addr) (c : Nat) (xs : List S65) (room lost : Int) : Prop :=
 w.heap[g]? = some (.cells #[.slice A xs.length c, .int .i64 room, .int .i64 lost] 105 (0, 0)) ∧ base ≤ g ∧ k65.R 65 w base (fun k => k ≠ g) (.slice A xs.length c) xs
def IsRef (w : World) (base g : Nat) (A : Option Addr) (c : Nat) (xs : List S64) (room lost : Int) : Prop :=
 w.heap[g]? = some (.cells #[.int .i64 room, .slice A xs.length c, .int .i64 lost] 36 (0, 0)) ∧ base ≤ g ∧ k64.R 64 w base (fun k => k ≠ g) (.slice A xs.length c) xs
def rowS (g : Nat) (A : Option Addr) (k : Nat) : Prop := k = g ∨ ∃ a, A = some a ∧ k = a.block
section
variable {w w1 : World} {base g : Nat} {A : Option Addr} {c : Nat} {xs : List S65} {ys : List S64} {room lost : Int} {S : Nat → Prop}
theorem IsLog.below (h : IsLog w base g A c xs room lost) (hb : Below w.heap.size w w1) : IsLog w1 base g A c xs room lost := ⟨blk_below h.1 hb, h.2.1, Kd.R_below h.2.2 hb⟩
theorem IsRef.below (h : IsRef w base g A c ys room lost) (hb : Below w.heap.size w w1) : IsRef w1 base g A c ys room lost := ⟨blk_below h.1 hb, h.2.1, Kd.R_below h.2.2 hb⟩
end
def roomOf (r : Int) : Int := mn (mx r 0) 65536
section
variable {base g : Nat} {A : Option Addr} {c : Nat} {xs : List S65} {room lost : Int}
end
end Go.Proofs.Ytalimpniimgheaa.Fn
namespace Go.Proofs.Ytalimpniimgheaa.Fn
open Go.RowKit Go.Proofs.YtalimpniimgheaaW.PrintWords Go.Proofs.YtalimpniimgheaaW.PrintLast Go.Proofs.YtalimpniimgheaaW.PrintMore
attribute [local go_sem] max2_int min2_int max_two min_two max_three min_three max_four min_four
set_option linter.unusedVariables false
set_option linter.unusedSimpArgs false
def bits_Mul64.f (a0 : Int) (a1 : Int) : Option (Int × Int) := some (IntKind.u64.wrap ((IntKind.u64.wrap ((IntKind.u64.wrap ((a0 / 4294967296) * (a1 / 4294967296))) + ((IntKind.u64.wrap ((IntKind.u64.wrap ((a0 / 4294967296) * (Go.bits .and .u64 a1 4294967295))) + ((IntKind.u64.wrap ((Go.bits .and .u64 a0 4294967295) * (Go.bits .and .u64 a1 4294967295))) / 4294967296))) / 4294967296))) + ((IntKind.u64.wrap ((Go.bits .and .u64 (IntKind.u64.wrap ((IntKind.u64.wrap ((a0 / 4294967296) * (Go.bits .and .u64 a1 4294967295))) + ((IntKind.u64.wrap ((Go.bits .and .u64 a0 4294967295) * (Go.bits .and .u64 a1 4294967295))) / 4294967296))) 4294967295) + (IntKind.u64.wrap ((Go.bits .and .u64 a0 4294967295) * (a1 / 4294967296))))) / 4294967296)), IntKind.u64.wrap (a0 * a1))
set_option maxHeartbeats 8000000 in
set_option maxRecDepth 100000 in
theorem bits_Mul64.calls (a0 : Int) (a1 : Int) (r1 : Int) (r2 : Int) (w : World) (h : bits_Mul64.f a0 a1 = some (r1, r2)) :
  Calls Try.prog 135 #[.int .u64 a0, .int .u64 a1] w fun e w' => e = .returned (.tuple #[.int .u64 r1, .int .u64 r2]) ∧ Drawn0 w w' := by
 have H : (some (IntKind.u64.wrap ((IntKind.u64.wrap ((IntKind.u64.wrap ((a0 / 4294967296) * (a1 / 4294967296))) + ((IntKind.u64.wrap ((IntKind.u64.wrap ((a0 / 4294967296) * (Go.bits .and .u64 a1 4294967295))) + ((IntKind.u64.wrap ((Go.bits .and .u64 a0 4294967295) * (Go.bits .and .u64 a1 4294967295))) / 4294967296))) / 4294967296))) + ((IntKind.u64.wrap ((Go.bits .and .u64 (IntKind.u64.wrap ((IntKind.u64.wrap ((a0 / 4294967296) * (Go.bits .and .u64 a1 4294967295))) + ((IntKind.u64.wrap ((Go.bits .and .u64 a0 4294967295) * (Go.bits .and .u64 a1 4294967295))) / 4294967296))) 4294967295) + (IntKind.u64.wrap ((Go.bits .and .u64 a0 4294967295) * (a1 / 4294967296))))) / 4294967296)), IntKind.u64.wrap (a0 * a1))) = some (r1, r2) := h
 clear h
 simp only [Option.some.injEq, Prod.mk.injEq] at H
 obtain ⟨rfl, rfl⟩ := H
 go_enter Try.func135, Try.ntmps135
 go_wp2
 go_ret2
 exact ⟨by first | rfl | (simp; done) | (simp [*]; done), by repeat (first | exact Drawn0.refl _ | apply Drawn0.step)⟩
end Go.Proofs.Ytalimpniimgheaa.Fn
namespace Go.Proofs.Ytalimpniimgheaa.Fn
open Go.RowKit Go.Proofs.YtalimpniimgheaaW.PrintWords Go.Proofs.YtalimpniimgheaaW.PrintLast Go.Proofs.YtalimpniimgheaaW.PrintMore
attribute [local go_sem] max2_int min2_int max_two min_two max_three min_three max_four min_four
set_option linter.unusedVariables false
set_option linter.unusedSimpArgs false
def bits_Mul.f (a0 : Int) (a1 : Int) : Option (Int × Int) := (bits_Mul64.f a0 a1).bind fun bt162 => (some (bt162.1, bt162.2))
set_option maxHeartbeats 8000000 in
set_option maxRecDepth 100000 in
theorem bits_Mul.calls (a0 : Int) (a1 : Int) (r1 : Int) (r2 : Int) (w : World) (h : bits_Mul.f a0 a1 = some (r1, r2)) :
  Calls Try.prog 111 #[.int .u64 a0, .int .u64 a1] w fun e w' => e = .returned (.tuple #[.int .u64 r1, .int .u64 r2]) ∧ Drawn0 w w' := by
 have H : ((bits_Mul64.f a0 a1).bind fun bt162 => (some (bt162.1, bt162.2))) = some (r1, r2) := h
 clear h
 replace H := Option.bind_eq_some_iff.mp H
 obtain ⟨⟨t162, t163⟩, A30, H⟩ := H
 replace H : (some (t162, t163)) = some (r1, r2) := H
 have A3 := asd A30
 clear A30
 simp only [Option.some.injEq, Prod.mk.injEq] at H
 obtain ⟨rfl, rfl⟩ := H
 go_enter Try.func111, Try.ntmps111
 go_wp2_with (first | ((with_reducible refine gate_callee (f := 135) rfl ?_); refine goesL_ (some 25) rfl rfl Try.func135 (by kernel_rfl) rfl #[.int .u64 a0, .int .u64 a1] rfl (by (try simp only [List.map_toArray, List.map_cons, List.map_nil]); first | done | rfl | (simp only [List.length_drop, List.length_take]; rfl)) ?_; (with_reducible refine (bits_Mul64.calls a0 a1 t162 t163 _ A3.out).mono ?_); rintro e w' ⟨rfl, ⟨nd, rfl⟩⟩; refine ⟨_, rfl, ?_⟩))
 go_ret2
 exact ⟨by first | rfl | (simp; done) | (simp [*]; done), by repeat (first | exact Drawn0.refl _ | apply Drawn0.step)⟩
end Go.Proofs.Ytalimpniimgheaa.Fn
namespace Go.Proofs.Ytalimpniimgheaa.Fn
open Go.RowKit Go.Proofs.YtalimpniimgheaaW.PrintWords Go.Proofs.YtalimpniimgheaaW.PrintLast Go.Proofs.YtalimpniimgheaaW.PrintMore
attribute [local go_sem] max2_int min2_int max_two min_two max_three min_three max_four min_four
set_option linter.unusedVariables false
set_option linter.unusedSimpArgs false
def gantt_sign.f (a0 : Int) : Option (Int) := if a0 ≥ 100 then (some 115) else (if a0 < 0 then (some 63) else (if a0 ≥ 10 then (some 63) else (some ((wrap64 (48 + a0)) % 256))))
set_option maxHeartbeats 8000000 in
set_option maxRecDepth 100000 in
theorem gantt_sign.calls (a0 : Int) (r : Int) (w : World) (h : gantt_sign.f a0 = some r) :
  Calls Try.prog 75 #[.int .i64 a0] w fun e w' => e = .returned (.int .u8 r) ∧ Drawn0 w w' := by
 have H : (if a0 ≥ 100 then (some 115) else (if a0 < 0 then (some 63) else (if a0 ≥ 10 then (some 63) else (some ((wrap64 (48 + a0)) % 256))))) = some r := h
 clear h
 by_cases c2 : a0 ≥ 100
 ·rw [if_pos c2] at H
  have c2b0 : decide (100 ≤ a0) = true := decide_eq_true c2
  clear c2
  obtain rfl := Option.some.inj H
  go_enter Try.func75, Try.ntmps75
  go_wp2
  go_ret
  exact ⟨by first | rfl | (simp; done) | (simp [*]; done), by repeat (first | exact Drawn0.refl _ | apply Drawn0.step)⟩
 ·rw [if_neg c2] at H
  have c2b0 : decide (100 ≤ a0) = false := decide_eq_false c2
  clear c2
  by_cases c3 : a0 < 0
  ·rw [if_pos c3] at H
   have c3b0 : decide (a0 < 0) = true := decide_eq_true c3
   clear c3
   obtain rfl := Option.some.inj H
   go_enter Try.func75, Try.ntmps75
   go_wp2
   go_ret
   exact ⟨by first | rfl | (simp; done) | (simp [*]; done), by repeat (first | exact Drawn0.refl _ | apply Drawn0.step)⟩
  ·rw [if_neg c3] at H
   have c3b0 : decide (a0 < 0) = false := decide_eq_false c3
   clear c3
   by_cases c4 : a0 ≥ 10
   ·rw [if_pos c4] at H
    have c4b0 : decide (10 ≤ a0) = true := decide_eq_true c4
    clear c4
    obtain rfl := Option.some.inj H
    go_enter Try.func75, Try.ntmps75
    go_wp2
    go_ret
    exact ⟨by first | rfl | (simp; done) | (simp [*]; done), by repeat (first | exact Drawn0.refl _ | apply Drawn0.step)⟩
   ·rw [if_neg c4] at H
    have c4b0 : decide (10 ≤ a0) = false := decide_eq_false c4
    clear c4
    obtain rfl := Option.some.inj H
    go_enter Try.func75, Try.ntmps75
    go_wp2
    go_ret
    exact ⟨by first | rfl | (simp; done) | (simp [*]; done), by repeat (first | exact Drawn0.refl _ | apply Drawn0.step)⟩
end Go.Proofs.Ytalimpniimgheaa.Fn
namespace Go.Proofs.Ytalimpniimgheaa.Fn
open Go.RowKit Go.Proofs.YtalimpniimgheaaW.PrintWords Go.Proofs.YtalimpniimgheaaW.PrintLast Go.Proofs.YtalimpniimgheaaW.PrintMore
set_option linter.unusedVariables false
set_option linter.unusedSimpArgs false
attribute [local go_sem] max2_mx min2_mn max_two min_two
def rep9T : Bool × List (List Nat × List Nat) := (true, [([], []), ([], []), ([], []), ([1, 2], [1, 2]), ([], []), ([], []), ([4, 5], [4, 5]), ([3, 6], [3, 6]), ([0, 7], [0, 7]), ([8, 7, 0, 1, 2, 3, 4, 5, 6, 7, 8], [0, 2, 5, 8])])
def rep9B : List Nat := [0, 0, 0, 6, 0, 0, 48, 126, 255, 511]
theorem rep9_tab : rtab .any (opsOf Try.f74 9) = rep9T := by kernel_rfl
theorem rep9_bits : waitsOk rep9T.2 rep9B = true := by kernel_rfl
theorem R_open {k : IntKind} {e base g n cap : Nat} {ok : Nat → Prop} {w : World} {zs : List Int} (h : (Kd.int k).R e w base ok (.slice (some ⟨g, 0, none⟩) n cap) zs) : n = zs.length ∧ n ≤ cap ∧ cap ≤ maxLen ∧ base ≤ g ∧ ok g ∧ ∃ rest : List Value, rest.length = cap - n ∧ w.heap[g]? = some (.cells (zs.map (Value.int k) ++ rest).toArray e (0, 0)) := by
 have ho : w.ownsRow base e 1 _ zs.length (encs (Value.int k) zs) := Kd.own_of_R h
 have hg := h.1 g (by simp [Value.ownBlock])
 rcases ho.2 with ⟨hv, _⟩ | ⟨g2, cap2, cur, hv, hb, hh, hnc, hcm, hcs, htk⟩
 ·cases hv
 injection hv with ha hn hc
 injection ha with ha
 injection ha with ha
 subst ha; subst hn; subst hc
 refine ⟨rfl, hnc, hcm, hb, hg, cur.toList.drop zs.length, by rw [List.length_drop, Array.length_toList, hcs]; omega, ?_⟩
 rw [Nat.mul_one] at htk
 have e1 : zs.map (Value.int k) = cur.toList.take zs.length := htk.symm
 rw [e1, List.take_append_drop]
 exact hh
theorem R_shut {k : IntKind} {e base g cap : Nat} {ok : Nat → Prop} {w : World} {zs : List Int} {rest : List Value} (hc : zs.length ≤ cap) (hm : cap ≤ maxLen) (hb : base ≤ g) (hok : ok g) (hr : rest.length = cap - zs.length) (hh : w.heap[g]? = some (.cells (zs.map (Value.int k) ++ rest).toArray e (0, 0))) : (Kd.int k).R e w base ok (.slice (some ⟨g, 0, none⟩) zs.length cap) zs := by
 refine Kd.R_of_own (enc := Value.int k) (h1 := fun _ => rfl) ⟨by simp [encs], .inr ⟨g, cap, _, rfl, hb, hh, hc, hm, by simp [hr]; omega, ?_⟩⟩ (fun q hq => by simp [Value.ownBlock] at hq; subst hq; exact hok)
 simp [encs]
theorem mul1 : ∀ n : Fin 401, bits_Mul.f 1 (n.val : Int) = some (0, (n.val : Int)) := by decide +kernel
theorem splice_rep (m n : Nat) (x z : Value) (rest : List Value) (h1 : m ≤ n) : splice ((List.replicate m x ++ List.replicate (n - m) z) ++ rest) m (List.replicate (min m (n - m)) x) = (List.replicate (m + min m (n - m)) x ++ List.replicate (n - (m + min m (n - m))) z) ++ rest := by
 unfold splice
 rw [List.append_assoc, List.take_left' (by simp), List.length_replicate, List.drop_append, List.drop_of_length_le (by simp), List.nil_append, List.length_replicate, List.drop_append, List.drop_replicate, List.length_replicate, ← List.replicate_append_replicate]
 simp only [List.append_assoc]
 congr 2
 rw [show m + min m (n - m) - m = min m (n - m) by omega, show n - m - min m (n - m) = n - (m + min m (n - m)) by omega, show min m (n - m) - (n - m) = 0 by omega, List.drop_zero]
set_option maxHeartbeats 8000000 in
set_option maxRecDepth 100000 in
theorem repeat_calls (gx n : Nat) (w : World) (hx : w.cell? ⟨gx, 0, none⟩ = some (.int .u8 46)) (h1 : 1 ≤ n) (h2 : n ≤ 400) :
  Calls Try.prog 74 #[.slice (some ⟨gx, 0, none⟩) 1 1, .int .i64 n] w fun e w' => ∃ g cap, e = .returned (.slice (some ⟨g, 0, none⟩) n cap) ∧ (Kd.int .u8).R 5 w' w.heap.size (fun _ => True) (.slice (some ⟨g, 0, none⟩) n cap) (List.replicate n 46) ∧ Below w.heap.size w w' := by
 have hu := Try.underlying78
 have HX := asd hx
 have HN := asd (And.intro h1 h2)
 have MU := asd (fun w => bits_Mul.calls 1 (n : Int) 0 (n : Int) w (mul1 ⟨n, by omega⟩))
 have d0 : decide ((n : Int) < 0) = false := decide_eq_false (by omega)
 have d1 : decide ((9223372036854775807 : Int) < (n : Int)) = false := decide_eq_false (by omega)
 have c1 : IntKind.u64.wrap (n : Int) = (n : Int) := by unfold IntKind.wrap; simp [IntKind.bits, IntKind.signed]; omega
 have c2 : IntKind.i64.wrap (n : Int) = (n : Int) := by rw [i64_w]; unfold wrap64; omega
 have n0 : (0 ≤ (n : Int)) = True := eq_true (by omega)
 have hn9 : (n : Int) ≤ 400 := by omega
 clear hx h1 h2
 go_enter Try.func74, Try.ntmps74
 go_wp2_with (first | (go_at_call 111; refine (MU.out _).mono ?_; rintro e w1 ⟨rfl, hd⟩; have HB := asd hd.below; clear hd) | ((with_reducible refine gate_dst (N := 30) rfl ?_); refine Kd.R_make (Kd.int .u8) w.heap.size 5 rfl (N := 30) rfl 78 _ _ rfl (n : Int) rfl rfl Try.underlying78 (.int .u8 0) 1 info5 rfl (by decide) (by omega) 0 (ok := fun _ => True) (okp := fun _ => True) rfl (fun _ hk => hk) trivial (by omega) (by simp; omega) HB.out (below_size HB.out) ?_; intro v1 w2 ho hb hg hnew; have HO := asd ho; have HB2 := asd hb; clear ho hb hg hnew; rw [Int.toNat_natCast] at HO; obtain ⟨g, cap, rfl, hbg, _⟩ := Kd.R_form HO.out (by rw [List.length_replicate]; exact HN.out.1); have HGB := asd hbg; clear hbg; rw [List.length_replicate] at HO ⊢; obtain ⟨hzz, hcap, hcm, hbb, hoo, rest, hrest, hblk⟩ := R_open HO.out; clear hzz hbb hoo; have HCP := asd (And.intro hcap hcm); have HRS := asd hrest; have BP := asd hblk; clear hcap hcm hrest hblk) | ((with_reducible refine gate_builtin (b := .copy) (xs := #[.tmp 31, .tmp 32]) rfl ?_); refine wpList_copy_splice rfl (.tmp 31) (.tmp 32) 78 78 rfl 5 Try.underlying78 (by kernel_rfl) (some ⟨g, 0, none⟩) (some ⟨gx, 0, none⟩) n cap 1 1 rfl rfl g 0 ((List.replicate n (0 : Int)).map (Value.int .u8) ++ rest) 5 BP.out [.int .u8 46] (show 1 = min 1 n by have := HN.out; omega) (fun _ => ⟨rfl, ⟨gx, 0, none⟩, rfl, fun j v hj => by rw [add_plain]; refine pw_cell_below HB2.out ?_; match j, hj with | 0, hj => exact HX.out.trans hj | j + 1, hj => exact absurd hj (by simp)⟩) (by have := HN.out; simp; omega) (by intro v hv; simp at hv; rw [hv]; rfl) w.heap.size w HB2.out HGB.out ?_; intro w3 hg3 hb3; have BP3 := asd (hg3 : w3.heap[g]? = _); have HB3 := asd hb3; clear hg3 hb3))
 have BPS : Aside0 (w3.heap[g]? = some (.cells ((List.replicate 1 (Value.int .u8 46) ++ List.replicate (n - 1) (Value.int .u8 0)) ++ rest).toArray 5 (0, 0))) := ⟨by
  rw [BP3.out]
  obtain ⟨q, hq⟩ : ∃ q, n = q + 1 := ⟨n - 1, by have := HN.out; omega⟩
  subst hq
  simp [splice, List.replicate_succ]⟩
 clear BP3 BP HO
 go_loopw [8] (fun v8 wr => ∃ m : Nat, v8 = .int .i64 m ∧ Aside0 (1 ≤ m ∧ m ≤ n) ∧ Aside0 (wr.heap[g]? = some (.cells ((List.replicate m (Value.int .u8 46) ++ List.replicate (n - m) (Value.int .u8 0)) ++ rest).toArray 5 (0, 0))) ∧ Aside0 (Below w.heap.size w wr)) (fun v _ => n - (intOf v).toNat)
 case atStart => exact ⟨1, rfl, ⟨by have := HN.out; omega⟩, BPS, HB3⟩
 case round =>
  clear BPS HB3
  obtain ⟨m, rfl, HM, BP, HB⟩ := hrel
  by_cases hlt : m < n
  ·have q1 : decide ((m : Int) < (n : Int)) = true := decide_eq_true (by omega)
   have q2 : decide (m < n) = true := decide_eq_true hlt
   have m0 : (0 ≤ (m : Int)) = True := eq_true (by omega)
   have m1 : ((m : Int) ≤ (n : Int)) = True := eq_true (by omega)
   have m2 : ((m : Int) ≤ (cap : Int)) = True := eq_true (by have := HCP.out; omega)
   have m3 : ((n : Int) ≤ (cap : Int)) = True := eq_true (by have := HCP.out; omega)
   have m4 : (cap = m) = False := eq_false (by have := HCP.out; omega)
   have wq : wrap64 ((m : Int) + ((min m (n - m) : Nat) : Int)) = ((m + min m (n - m) : Nat) : Int) := by unfold wrap64; omega
   go_wp2
   refine start_ (n := 10) (S := fun w' => True) (ds := []) #[false, false, false, false, false, false, false, false, false, false] (by kernel_rfl) rfl rfl trivial (fun hHeld => ?_); refine with_tabW rep9_tab rep9_bits (fun HT_ HW_ => ?_)
   have BP2 := asd (blk_drew BP.out)
   have HB2 := asd (below_drew HB.out)
   clear BP HB
   generalize wr.drew = w25 at BP2 HB2 hHeld ⊢
   refine pure_ (i := 0) (N := (some 38)) (v := ?_) (a' := ?_) #[true, false, false, false, false, false, false, false, false, false] rfl rfl (any_of HT_.out (by kernel_rfl)) (fun _ _ _ h => h) (Or.inl ⟨by rfl, ?_⟩) ?_ ?_
   rotate_left
   ·intro w'
    go_simp
    with_reducible rfl
   rotate_left
   ·simp only [Act.put, sB, i64_w, i32_w]
    rfl
   refine pure_ (i := 1) (N := (some 39)) (v := ?_) (a' := ?_) #[true, true, false, false, false, false, false, false, false, false] rfl rfl (any_of HT_.out (by kernel_rfl)) (fun _ _ _ h => h) (Or.inl ⟨by rfl, ?_⟩) ?_ ?_
   rotate_left
   ·intro w'
    go_simp
    with_reducible rfl
   rotate_left
   ·simp only [Act.put, sB, i64_w, i32_w]
    rfl
   refine pure_ (i := 2) (N := (some 40)) (v := ?_) (a' := ?_) #[true, true, true, false, false, false, false, false, false, false] rfl rfl (any_of HT_.out (by kernel_rfl)) (fun _ _ _ h => h) (Or.inl ⟨by rfl, ?_⟩) ?_ ?_
   rotate_left
   ·intro w'
    go_simp
    with_reducible rfl
   rotate_left
   ·simp only [Act.put, sB, i64_w, i32_w]
    rfl
   refine pure_ (i := 3) (N := (some 41)) (v := ?_) (a' := ?_) #[true, true, true, true, false, false, false, false, false, false] rfl rfl (any_of HT_.out (by kernel_rfl)) (fun _ _ _ h => h) (Or.inl ⟨by rfl, ?_⟩) ?_ ?_
   rotate_left
   ·intro w'
    go_simp
    with_reducible rfl
   rotate_left
   ·simp only [Act.put, sB, i64_w, i32_w]
    rfl
   refine pure_ (i := 4) (N := (some 42)) (v := ?_) (a' := ?_) #[true, true, true, true, true, false, false, false, false, false] rfl rfl (any_of HT_.out (by kernel_rfl)) (fun _ _ _ h => h) (Or.inl ⟨by rfl, ?_⟩) ?_ ?_
   rotate_left
   ·intro w'
    go_simp
    with_reducible rfl
   rotate_left
   ·simp only [Act.put, sB, i64_w, i32_w]
    rfl
   refine pure_ (i := 5) (N := (some 43)) (v := ?_) (a' := ?_) #[true, true, true, true, true, true, false, false, false, false] rfl rfl (any_of HT_.out (by kernel_rfl)) (fun _ _ _ h => h) (Or.inl ⟨by rfl, ?_⟩) ?_ ?_
   rotate_left
   ·intro w'
    go_simp
    with_reducible rfl
   rotate_left
   ·simp only [Act.put, sB, i64_w, i32_w]
    rfl
   refine pure_ (i := 6) (N := (some 44)) (v := ?_) (a' := ?_) #[true, true, true, true, true, true, true, false, false, false] rfl rfl (any_of HT_.out (by kernel_rfl)) (fun _ _ _ h => h) (Or.inl ⟨by rfl, ?_⟩) ?_ ?_
   rotate_left
   ·intro w'
    go_simp
    with_reducible rfl
   rotate_left
   ·simp only [Act.put, sB, i64_w, i32_w]
    rfl
   refine one_ (i := 7) (N := (some 45)) #[true, true, true, true, true, true, true, true, false, false] rfl rfl (one_of HT_.out (by kernel_rfl)) (by decide) (fun K hK => ?_)
   refine step_copy_splice rfl (.tmp 41) (.tmp 44) 78 78 rfl 5 Try.underlying78 (by kernel_rfl) (some ⟨g, m, none⟩) (some ⟨g, 0, none⟩) (n - m) (cap - m) m cap rfl rfl g m ((List.replicate m (Value.int .u8 46) ++ List.replicate (n - m) (Value.int .u8 0)) ++ rest) 5 BP2.out (List.replicate (min m (n - m)) (Value.int .u8 46)) List.length_replicate (fun _ => ⟨rfl, ⟨g, 0, none⟩, rfl, fun j v hj => by
    rw [add_plain, blk_cell BP2.out, List.getElem?_toArray]
    obtain ⟨h1, h2⟩ := List.getElem?_eq_some_iff.1 hj
    rw [List.length_replicate] at h1
    rw [List.getElem_replicate] at h2
    subst h2
    rw [List.getElem?_append_left (by simp; omega), List.getElem?_append_left (by simp; omega), List.getElem?_replicate, if_pos (by omega)]⟩) (by simp; omega) (fun v hv => by rw [List.eq_of_mem_replicate hv]; rfl) w.heap.size w HB2.out HGB.out ?_
   intro w9 hg9 hb9
   have BP9 := asd (hg9 : w9.heap[g]? = _)
   have HB9 := asd hb9
   clear hg9 hb9 BP2 HB2
   refine hK.out _ _ trivial (fun hHeld => ?_)
   clear hK K
   refine norm_ (a' := ?_) ?_ ?_
   rotate_left
   ·show Act.put _ (some 45) _ = _
    simp only [Act.put, sB, i64_w, i32_w]
    rfl
   refine pure_ (i := 8) (N := (some 46)) (v := ?_) (a' := ?_) #[true, true, true, true, true, true, true, true, true, false] rfl rfl (any_of HT_.out (by kernel_rfl)) (fun _ _ _ h => h) (Or.inl ⟨by rfl, ?_⟩) ?_ ?_
   rotate_left
   ·intro w'
    go_simp
    with_reducible rfl
   rotate_left
   ·simp only [Act.put, sB, i64_w, i32_w]
    rfl
   refine pure_ (i := 9) (N := (some 8)) (v := ?_) (a' := ?_) #[true, true, true, true, true, true, true, true, true, true] rfl rfl (any_of HT_.out (by kernel_rfl)) (fun _ _ _ h => h) (Or.inl ⟨by rfl, ?_⟩) ?_ ?_
   rotate_left
   ·intro w'
    go_simp
    with_reducible rfl
   rotate_left
   ·simp only [Act.put, sB, i64_w, i32_w]
    rfl
   refine done_ (done_of HT_.out (by kernel_rfl)) ?_
   try go_wp2
   go_roundw
   case rel => exact ⟨m + min m (n - m), by go_num, ⟨by have := HM.out; omega⟩, ⟨by have h := BP9.out; rw [splice_rep m n _ _ _ (by omega)] at h; exact h⟩, HB9⟩
   case measure => have := HM.out; simp [intOf]; omega
  ·have q1 : decide ((m : Int) < (n : Int)) = false := decide_eq_false (by omega)
   have q2 : decide (m < n) = false := decide_eq_false hlt
   have e : m = n := by have := HM.out; omega
   subst e
   clear hlt
   go_wp2
   go_ret
   refine ⟨g, cap, rfl, ?_, HB.out⟩
   have h := R_shut (k := .u8) (e := 5) (base := w.heap.size) (ok := fun _ => True) (zs := List.replicate m 46) (rest := rest) (by rw [List.length_replicate]; exact HCP.out.1) HCP.out.2 HGB.out trivial (by rw [List.length_replicate]; exact HRS.out) (by
    have h2 := BP.out
    rw [Nat.sub_self] at h2
    simp only [List.map_replicate, List.replicate_zero, List.append_nil] at h2 ⊢
    exact h2)
   rw [List.length_replicate] at h
   exact h
end Go.Proofs.Ytalimpniimgheaa.Fn
namespace Go.Proofs.Ytalimpniimgheaa.Fn
open Go.RowKit Go.Proofs.YtalimpniimgheaaW.PrintWords Go.Proofs.YtalimpniimgheaaW.PrintLast Go.Proofs.YtalimpniimgheaaW.PrintMore
set_option linter.unusedVariables false
set_option linter.unusedSimpArgs false
attribute [local go_sem] max2_mx min2_mn max_two min_two
def sgn (a : Int) : Int := if a ≥ 100 then 115 else if a < 0 then 63 else if a ≥ 10 then 63 else 48 + a
theorem sgn_f (a : Int) : gantt_sign.f a = some (sgn a) := by
 unfold gantt_sign.f sgn
 by_cases h1 : a ≥ 100
 ·rw [if_pos h1, if_pos h1]
 ·rw [if_neg h1, if_neg h1]
  by_cases h2 : a < 0
  ·rw [if_pos h2, if_pos h2]
  ·rw [if_neg h2, if_neg h2]
   by_cases h3 : a ≥ 10
   ·rw [if_pos h3, if_pos h3]
   ·rw [if_neg h3, if_neg h3]
    unfold wrap64
    congr 1
    omega
theorem sgn_calls (a : Int) (w : World) : Calls Try.prog 75 #[.int .i64 a] w fun e w' => e = .returned (.int .u8 (sgn a)) ∧ Drawn0 w w' := gantt_sign.calls a _ w (sgn_f a)
def paint (from_ n : Int) (zs : List Int) (e : S65) : List Int := if e.f1 = 3 ∧ from_ ≤ e.f0 ∧ e.f0 - from_ < n then zs.set (e.f0 - from_).toNat (sgn e.f2) else zs
theorem paint_length (f n : Int) (zs : List Int) (e : S65) : (paint f n zs e).length = zs.length := by unfold paint; split <;> simp
theorem paints_length (f n : Int) (xs : List S65) (zs : List Int) : (xs.foldl (paint f n) zs).length = zs.length := by
 induction xs generalizing zs with
 | nil => rfl
 | cons x r ih => rw [List.foldl_cons, ih, paint_length]
theorem fold_take {α β : Type} (f : β → α → β) (z : β) (xs : List α) (i : Nat) (d : α) (h : i < xs.length) : (xs.take (i + 1)).foldl f z = f ((xs.take i).foldl f z) (xs.getD i d) := by
 rw [List.take_succ_eq_append_getElem h, List.foldl_append, getD_lt xs d h]; rfl
def rowOf (from_ upto : Int) (xs : List S65) : List Int := if from_ < 0 ∨ upto ≤ from_ then [] else xs.foldl (paint from_ (mn (upto - from_) 400)) (List.replicate (mn (upto - from_) 400).toNat 46)
section
variable (A : Option Addr) (c : Nat) (xs : List S65) (from_ upto : Int)
set_option maxHeartbeats 8000000 in
set_option maxRecDepth 100000 in
theorem row_calls (w : World) (h : k65.C w A xs.length xs) (hl : xs.length ≤ 100000) (hw : ∀ e ∈ xs, -9223372036854775808 ≤ e.f0 ∧ e.f0 ≤ 9223372036854775807) (hf : -9223372036854775808 ≤ from_ ∧ from_ ≤ 9223372036854775807) (ht : -9223372036854775808 ≤ upto ∧ upto ≤ 9223372036854775807) :
  Calls Try.prog 32 #[.slice A xs.length c, .int .i64 from_, .int .i64 upto] w fun e w' => e = .returned (.string (strOfNums (rowOf from_ upto xs))) ∧ Below w.heap.size w w' := by
 have hu := Try.underlying65
 have hu2 := Try.underlying78
 have hu3 := Try.underlying5
 have HC := asd h
 have HW := asd hw
 have HL := asd hl
 by_cases hd : from_ < 0 ∨ upto ≤ from_
 ·have e : rowOf from_ upto xs = [] := by unfold rowOf; rw [if_pos hd]
  rw [e]
  clear e h hw hl
  by_cases h0 : from_ < 0
  ·have d0 : decide (from_ < 0) = true := decide_eq_true h0
   clear hd hf ht h0
   go_enter Try.func32, Try.ntmps32
   go_wp2
   go_ret
   exact ⟨rfl, Below.refl _ _⟩
  ·have d0 : decide (from_ < 0) = false := decide_eq_false h0
   have d1 : decide (upto ≤ from_) = true := decide_eq_true (by omega)
   clear hd hf ht h0
   go_enter Try.func32, Try.ntmps32
   go_wp2
   go_ret
   exact ⟨rfl, Below.refl _ _⟩
 ·have e : rowOf from_ upto xs = xs.foldl (paint from_ (mn (upto - from_) 400)) (List.replicate (mn (upto - from_) 400).toNat 46) := by unfold rowOf; rw [if_neg hd]
  rw [e]
  have d0 : decide (from_ < 0) = false := decide_eq_false (by omega)
  have d1 : decide (upto ≤ from_) = false := decide_eq_false (by omega)
  have hw1 : IntKind.i64.wrap (upto - from_) = upto - from_ := by rw [i64_w]; unfold wrap64; omega
  have hw2 : wrap64 (upto - from_) = upto - from_ := by unfold wrap64; omega
  obtain ⟨n, hn⟩ : ∃ n : Nat, mn (upto - from_) 400 = (n : Int) := ⟨(mn (upto - from_) 400).toNat, by unfold mn; split <;> omega⟩
  have HN := asd (show 1 ≤ n ∧ n ≤ 400 by unfold mn at hn; split at hn <;> omega)
  have HF := asd (show 0 ≤ from_ ∧ from_ ≤ 9223372036854775807 by omega)
  rw [hn, Int.toNat_natCast]
  have RP := asd (repeat_calls w.heap.size n (w.alloc (.cells #[Value.int .u8 46] 5 (1, 2))) (by rw [cell_of_row _ _ _ _ _ _ (heap_alloc_new w _)]; rfl) HN.out.1 HN.out.2)
  have kc := fun (w : World) (C : Array Value) (n c : Nat) => Lib.run_convert_bytes_const (P := Try.prog) w 78 5 C n c Try.underlying78 Try.underlying5
  clear e h hw hl hd hf ht
  go_enter Try.func32, Try.ntmps32
  go_wp2_with fail
  refine RP.out.mono ?_
  rintro e w1 ⟨g, cap, rfl, hr, hb⟩
  have HR1 := asd (Kd.R_lower hr (base' := w.heap.size) (by simp))
  have HB1 := asd (below_then (below_alloc (Below.refl _ w) _) (by simp) hb)
  clear hr hb RP hw1 hw2 hn d0 d1
  go_wp2
  go_loopw [29] (fun v29 wr => ∃ (i : Nat) (zs : List Int), v29 = .int .i64 i ∧ Aside0 (i ≤ xs.length ∧ zs = (xs.take i).foldl (paint from_ n) (List.replicate n 46)) ∧ Aside0 ((Kd.int .u8).R 5 wr w.heap.size (fun _ => True) (.slice (some ⟨g, 0, none⟩) n cap) zs) ∧ Aside0 (Below w.heap.size w wr)) (fun v _ => xs.length - (intOf v).toNat)
  case atStart => exact ⟨0, _, rfl, ⟨by omega, rfl⟩, HR1, HB1⟩
  case round =>
   clear HR1 HB1
   obtain ⟨i, zs, rfl, HX, HR, HB⟩ := hrel
   have h99 : (xs.length : Int) ≤ 100000 := by have := HL.out; omega
   by_cases hlt : i < xs.length
   ·have hi : (i : Int) < (xs.length : Int) := by omega
    have q0 : ((i : Int) < (xs.length : Int)) = True := eq_true hi
    have q1 : decide ((i : Int) < (xs.length : Int)) = true := decide_eq_true hi
    have q2 : decide (i < xs.length) = true := decide_eq_true hlt
    have FT := asd (fold_take (paint from_ n) (List.replicate n 46) xs i z65 hlt)
    have WF := HW.out (xs.getD i z65) (by rw [getD_lt xs z65 hlt]; exact List.getElem_mem hlt)
    have ZL : Aside0 (zs.length = n) := ⟨by rw [HX.out.2, paints_length, List.length_replicate]⟩
    obtain ⟨ad, rfl, y0, y1, y2, y3⟩ := at_T65 (Kd.C_below HC.out HB.out) (i : Int) (by omega) hi
    unfold rd_T65 at y0 y1 y2 y3
    simp only [Int.toNat_natCast] at y0 y1 y2 y3
    generalize xs.getD i z65 = x at y0 y1 y2 y3 FT WF
    have hf0 := HF.out.1
    by_cases c1 : x.f1 = 3
    ·have e1 : decide (x.f1 = 3) = true := decide_eq_true c1
     have e1b : (x.f1 == 3) = true := by simp [c1]
     by_cases c2 : from_ ≤ x.f0
     ·have e2 : decide (from_ ≤ x.f0) = true := decide_eq_true c2
      have hw3 : IntKind.i64.wrap (x.f0 - from_) = x.f0 - from_ := by rw [i64_w]; unfold wrap64; omega
      have hw4 : wrap64 (x.f0 - from_) = x.f0 - from_ := by unfold wrap64; omega
      by_cases c3 : x.f0 - from_ < (n : Int)
      ·have e3 : decide (x.f0 - from_ < (n : Int)) = true := decide_eq_true c3
       have NX : Aside0 (zs.set (x.f0 - from_).toNat (sgn x.f2) = (xs.take (i + 1)).foldl (paint from_ n) (List.replicate n 46)) := ⟨by rw [FT.out, ← HX.out.2]; unfold paint; rw [if_pos ⟨c1, c2, c3⟩]⟩
       have p0 : (0 ≤ x.f0 - from_) = True := eq_true (by omega)
       have p1 : (x.f0 - from_ < (n : Int)) = True := eq_true c3
       have HK := asd (And.intro (show 0 ≤ x.f0 - from_ by omega) c3)
       have HRa := asd (Kd.R_alloc HR.out (.cells #[.int .i64 x.f0, .int .i64 x.f1, .int .i64 x.f2, .int .i64 x.f3] 65))
       have HBa := asd (below_alloc HB.out (.cells #[.int .i64 x.f0, .int .i64 x.f1, .int .i64 x.f2, .int .i64 x.f3] 65))
       clear c1 c2 c3 WF FT HR HB
       go_wp2_with fail
       refine (sgn_calls x.f2 _).mono ?_
       rintro e w5 ⟨rfl, hd⟩
       have HR5 := asd (Kd.R_below HRa.out hd.below)
       have HB5 := asd (below_step HBa.out hd.below)
       clear hd
       generalize x.f0 - from_ = kx at *
       have hcell := Kd.R_celln (enc := Value.int .u8) (h1 := fun _ => rfl) (0 : Int) HR5.out kx HK.out.1 HK.out.2
       have hc1 := hcell.1
       have hc2 := hcell.2
       clear hcell
       go_wp2
       go_roundw
       case rel => exact ⟨i + 1, zs.set kx.toNat (sgn x.f2), by go_num, ⟨by omega, NX.out⟩, ⟨Kd.R_putn (enc := Value.int .u8) (h1 := fun _ => rfl) HR5.out kx (sgn x.f2)⟩, ⟨HB5.out.setCell (p := ⟨g, kx.toNat, none⟩) (Kd.R_base HR5.out g (by simp [Value.ownBlock])) _⟩⟩
       case measure => simp [intOf]; omega
      ·have e3 : decide (x.f0 - from_ < (n : Int)) = false := decide_eq_false c3
       have NX : Aside0 (zs = (xs.take (i + 1)).foldl (paint from_ n) (List.replicate n 46)) := ⟨by rw [FT.out, ← HX.out.2]; unfold paint; rw [if_neg (fun q => c3 q.2.2)]⟩
       clear c1 c2 c3 WF FT
       go_wp2
       go_roundw
       case rel => exact ⟨i + 1, zs, by go_num, ⟨by omega, NX.out⟩, ⟨Kd.R_alloc HR.out _⟩, ⟨below_alloc HB.out _⟩⟩
       case measure => simp [intOf]; omega
     ·have e2 : decide (from_ ≤ x.f0) = false := decide_eq_false c2
      have NX : Aside0 (zs = (xs.take (i + 1)).foldl (paint from_ n) (List.replicate n 46)) := ⟨by rw [FT.out, ← HX.out.2]; unfold paint; rw [if_neg (fun q => c2 q.2.1)]⟩
      clear c1 c2 WF FT
      go_wp2
      go_roundw
      case rel => exact ⟨i + 1, zs, by go_num, ⟨by omega, NX.out⟩, ⟨Kd.R_alloc HR.out _⟩, ⟨below_alloc HB.out _⟩⟩
      case measure => simp [intOf]; omega
    ·have e1 : decide (x.f1 = 3) = false := decide_eq_false c1
     have e1b : (x.f1 == 3) = false := by simp [c1]
     have NX : Aside0 (zs = (xs.take (i + 1)).foldl (paint from_ n) (List.replicate n 46)) := ⟨by rw [FT.out, ← HX.out.2]; unfold paint; rw [if_neg (fun q => c1 q.1)]⟩
     clear c1 WF FT
     go_wp2
     go_roundw
     case rel => exact ⟨i + 1, zs, by go_num, ⟨by omega, NX.out⟩, ⟨Kd.R_alloc HR.out _⟩, ⟨below_alloc HB.out _⟩⟩
     case measure => simp [intOf]; omega
   ·have q1 : decide ((i : Int) < (xs.length : Int)) = false := decide_eq_false (by omega)
    have q2 : decide (i < xs.length) = false := decide_eq_false hlt
    have e : zs = xs.foldl (paint from_ n) (List.replicate n 46) := by have h1 := HX.out; rw [h1.2, List.take_of_length_le (by omega)]
    have hst := Kd.C_string (P := Try.prog) (src := 78) (dst := 9) Try.underlying78 Try.underlying5 Try.underlying9 (n := n) (c := cap) (by
     have h2 := C_ofR HR.out
     have h3 : zs.length = n := by rw [e, paints_length, List.length_replicate]
     rw [h3] at h2; exact h2)
    subst e
    clear hlt
    go_wp2
    go_ret
    exact ⟨rfl, HB.out⟩
end
end Go.Proofs.Ytalimpniimgheaa.Fn
namespace Go.Proofs.Ytalimpniimgheaa.Fn
open Go.RowKit Go.Proofs.YtalimpniimgheaaW.PrintWords Go.Proofs.YtalimpniimgheaaW.PrintLast Go.Proofs.YtalimpniimgheaaW.PrintMore
set_option linter.unusedVariables false
set_option linter.unusedSimpArgs false
attribute [local go_sem] max2_mx min2_mn max_two min_two
def IdxOf {α : Type} (p : α → Bool) (xs : List α) (z : α) (r : Int) : Prop := (r = -1 ∧ ∀ k, k < xs.length → p (xs.getD k z) = false) ∨ ∃ k : Nat, k < xs.length ∧ r = (k : Int) ∧ p (xs.getD k z) = true ∧ ∀ j, j < k → p (xs.getD j z) = false
structure Mid {α : Type} (p : α → Bool) (xs zs : List α) (i j : Nat) : Prop where
 len : zs.length = xs.length
 lt : i < j
 le : j ≤ xs.length
 kept : zs.take i = (xs.take j).filter (fun x => !p x)
 rest : zs.drop j = xs.drop j
section
variable (A : Option Addr) (c : Nat) (xs : List S65) (bx : Addr) (p : S65 → Bool)
end
section
variable (g c : Nat) (xs : List S65) (bx : Addr) (p : S65 → Bool)
end
end Go.Proofs.Ytalimpniimgheaa.Fn
namespace Go.Proofs.Ytalimpniimgheaa.Fn
open Go.RowKit Go.Proofs.YtalimpniimgheaaW.PrintWords Go.Proofs.YtalimpniimgheaaW.PrintLast Go.Proofs.YtalimpniimgheaaW.PrintMore
set_option linter.unusedVariables false
set_option linter.unusedSimpArgs false
attribute [local go_sem] max2_mx min2_mn max_two min_two
section
variable {base g : Nat} {A : Option Addr} {c : Nat} {xs : List S65} {room lost : Int}
end
section
variable (A : Option Addr) (c : Nat) (ks : List Int) (x : Int)
end
section
variable {base g : Nat} {A : Option Addr} {c : Nat} {xs : List S65} {room lost : Int} {K : Option Addr} {d : Nat} {ks : List Int}
def ofKinds (ks : List Int) (xs : List S65) : List S65 := xs.filter (fun x => ks.any (fun y => decide (x.f1 = y)))
end
end Go.Proofs.Ytalimpniimgheaa.Fn
namespace Go.Proofs.Ytalimpniimgheaa.Fn
open Go.RowKit Go.Proofs.YtalimpniimgheaaW.PrintWords Go.Proofs.YtalimpniimgheaaW.PrintLast Go.Proofs.YtalimpniimgheaaW.PrintMore
set_option linter.unusedVariables false
set_option linter.unusedSimpArgs false
attribute [local go_sem] max2_mx min2_mn max_two min_two
def jadd4T : Bool × List (List Nat × List Nat) := (true, [([], []), ([], []), ([1], [1]), ([2], [2]), ([3], [3]), ([], []), ([], []), ([5, 6], [5, 6]), ([4, 7], [4, 7]), ([0, 0, 1, 2, 3, 4, 5, 6, 7, 8], [0]), ([9, 0, 1, 2, 3, 4, 5, 6, 7, 8], [9]), ([10, 8, 8, 0, 1, 2, 3, 4, 5, 6, 7, 8], [8, 10])])
def jadd4B : List Nat := [0, 0, 2, 6, 14, 0, 0, 96, 254, 511, 1023, 2047]
section
variable {base g : Nat} {A : Option Addr} {c : Nat} {xs : List S65} {lost : Int} {E : Option Addr} {d : Nat} {es : List S65} {room : Nat}
end
end Go.Proofs.Ytalimpniimgheaa.Fn
namespace Go.Proofs.Ytalimpniimgheaa.Fn
open Go.RowKit Go.Proofs.YtalimpniimgheaaW.PrintWords Go.Proofs.YtalimpniimgheaaW.PrintLast Go.Proofs.YtalimpniimgheaaW.PrintMore
set_option linter.unusedVariables false
set_option linter.unusedSimpArgs false
attribute [local go_sem] max2_mx min2_mn max_two min_two
def radd6T : Bool × List (List Nat × List Nat) := (true, [([], []), ([], []), ([1], [1]), ([2], [2]), ([3], [3]), ([], []), ([], []), ([5, 6], [5, 6]), ([7], [7]), ([8], [8]), ([4, 9], [4, 9]), ([0, 0, 1, 2, 3, 4, 5, 6, 7, 8, 9, 10], [0]), ([11, 0, 1, 2, 3, 4, 5, 6, 7, 8, 9, 10], [11]), ([12, 10, 10, 0, 1, 2, 3, 4, 5, 6, 7, 8, 9, 10], [10, 12])])
def radd6B : List Nat := [0, 0, 2, 6, 14, 0, 0, 96, 224, 480, 1022, 2047, 4095, 8191]
section
variable {g : Nat} {A : Option Addr} {c : Nat} {ys : List S64} {lost : Int} {E : Option Addr} {d : Nat} {es : List S64} {room : Nat}
end
end Go.Proofs.Ytalimpniimgheaa.Fn
namespace Go.Proofs.Ytalimpniimgheaa.Fn
open Go.RowKit Go.Proofs.YtalimpniimgheaaW.PrintWords Go.Proofs.YtalimpniimgheaaW.PrintLast Go.Proofs.YtalimpniimgheaaW.PrintMore
set_option linter.unusedVariables false
set_option linter.unusedSimpArgs false
attribute [local go_sem] max2_mx min2_mn max_two min_two
def refKinds (ks : List Int) (ys : List S64) : List S64 := ys.filter (fun x => ks.any (fun y => decide (y = x.f1)))
section
variable {base g : Nat} {A : Option Addr} {c : Nat} {ys : List S64} {room lost : Int} {K : Option Addr} {d : Nat} {ks : List Int}
end
end Go.Proofs.Ytalimpniimgheaa.Fn
namespace Go.Proofs.Ytalimpniimgheaa.Fn
open Go.RowKit Go.Proofs.YtalimpniimgheaaW.PrintWords Go.Proofs.YtalimpniimgheaaW.PrintLast Go.Proofs.YtalimpniimgheaaW.PrintMore
attribute [local go_sem] max2_int min2_int max_two min_two max_three min_three max_four min_four
set_option linter.unusedVariables false
set_option linter.unusedSimpArgs false
def parcloselaw23_owns.l0 : Nat → List (S64) → List (S65) → Int → Option ((List (S65)))
 | 0, _, _, _ => none
 | k + 1, x0, x3, x4 => if x4 < (x0.length : Int) then (if 0 ≤ x4 then (if x3.length < 4398046511104 then (parcloselaw23_owns.l0 k x0 (x3 ++ [(⟨(rd_T64 x0 x4).f0, (rd_T64 x0 x4).f1, (rd_T64 x0 x4).f2, (rd_T64 x0 x4).f3⟩ : S65)]) (wrap64 (x4 + 1))) else (none)) else (none)) else (some x3)
def parcloselaw23_owns.f (k : Nat) (l0 : List (S64)) : Option ((List (S65))) := parcloselaw23_owns.l0 k l0 ([] : List (S65)) 0
end Go.Proofs.Ytalimpniimgheaa.Fn
namespace Go.Proofs.Ytalimpniimgheaa.Fn
open Go.RowKit Go.Proofs.YtalimpniimgheaaW.PrintWords Go.Proofs.YtalimpniimgheaaW.PrintLast Go.Proofs.YtalimpniimgheaaW.PrintMore
attribute [local go_sem] max2_int min2_int max_two min_two max_three min_three max_four min_four
set_option linter.unusedVariables false
set_option linter.unusedSimpArgs false
def parcloselaw23_Refs.l0 : Nat → List (S65) → List (S64) → Int → Option ((List (S64)))
 | 0, _, _, _ => none
 | k + 1, x0, x3, x4 => if x4 < (x0.length : Int) then (if 0 ≤ x4 then (if x3.length < 4398046511104 then (parcloselaw23_Refs.l0 k x0 (x3 ++ [(⟨(rd_T65 x0 x4).f0, (rd_T65 x0 x4).f1, (rd_T65 x0 x4).f2, (rd_T65 x0 x4).f3⟩ : S64)]) (wrap64 (x4 + 1))) else (none)) else (none)) else (some x3)
def parcloselaw23_Refs.f (k : Nat) (l0 : List (S65)) : Option ((List (S64))) := parcloselaw23_Refs.l0 k l0 ([] : List (S64)) 0
end Go.Proofs.Ytalimpniimgheaa.Fn
namespace Go.Proofs.Ytalimpniimgheaa.Fn
open Go.RowKit Go.Proofs.YtalimpniimgheaaW.PrintWords Go.Proofs.YtalimpniimgheaaW.PrintLast Go.Proofs.YtalimpniimgheaaW.PrintMore
attribute [local go_sem] max2_int min2_int max_two min_two max_three min_three max_four min_four
set_option linter.unusedVariables false
set_option linter.unusedSimpArgs false
theorem eqA64 (d : Nat) (w : World) (x0 y0 : Int) (x1 y1 : Int) (x2 y2 : Int) (x3 y3 : Int) :
  (Op.equalIn (d + 2) 64 (.agg #[.int .i64 x0, .int .i64 x1, .int .i64 x2, .int .i64 x3]) (.agg #[.int .i64 y0, .int .i64 y1, .int .i64 y2, .int .i64 y3])).run Try.prog w = .ok (x0 == y0 && (x1 == y1 && (x2 == y2 && (x3 == y3)))) w := by
 refine eqA_of Try.underlying64 (by kernel_rfl) ?_
 refine eqf_cons (by rfl) (by go_simp; rfl) (by go_simp; rfl) (by go_simp) ?_
 refine eqf_cons (by rfl) (by go_simp; rfl) (by go_simp; rfl) (by go_simp) ?_
 refine eqf_cons (by rfl) (by go_simp; rfl) (by go_simp; rfl) (by go_simp) ?_
 exact eqf_last (by rfl) (by go_simp; rfl) (by go_simp; rfl) (by go_simp)
end Go.Proofs.Ytalimpniimgheaa.Fn
namespace Go.Proofs.Ytalimpniimgheaa.Fn
open Go.RowKit Go.Proofs.YtalimpniimgheaaW.PrintWords Go.Proofs.YtalimpniimgheaaW.PrintLast Go.Proofs.YtalimpniimgheaaW.PrintMore
attribute [local go_sem] max2_int min2_int max_two min_two max_three min_three max_four min_four
set_option linter.unusedVariables false
set_option linter.unusedSimpArgs false
attribute [local go_sem high] eqA64
def parcloseref23_Same.l0 : Nat → List (S64) → List (S64) → Int → Option (Bool)
 | 0, _, _, _ => none
 | k + 1, x0, x1, x5 => if x5 < (x0.length : Int) then (if 0 ≤ x5 then (if x5 < (x1.length : Int) then (if (!(((rd_T64 x0 x5).f0) == ((rd_T64 x1 x5).f0)) || (!(((rd_T64 x0 x5).f1) == ((rd_T64 x1 x5).f1)) || (!(((rd_T64 x0 x5).f2) == ((rd_T64 x1 x5).f2)) || (!(((rd_T64 x0 x5).f3) == ((rd_T64 x1 x5).f3)))))) = true then (some false) else (parcloseref23_Same.l0 k x0 x1 (wrap64 (x5 + 1)))) else (none)) else (none)) else (some true)
def parcloseref23_Same.f (k : Nat) (l0 : List (S64)) (l1 : List (S64)) : Option (Bool) := if (l0.length : Int) = (l1.length : Int) then (parcloseref23_Same.l0 k l0 l1 0) else (some false)
end Go.Proofs.Ytalimpniimgheaa.Fn
namespace Go.Proofs.Ytalimpniimgheaa.Fn
open Go.RowKit Go.Proofs.YtalimpniimgheaaW.PrintWords Go.Proofs.YtalimpniimgheaaW.PrintLast Go.Proofs.YtalimpniimgheaaW.PrintMore
attribute [local go_sem] max2_int min2_int max_two min_two max_three min_three max_four min_four
set_option linter.unusedVariables false
set_option linter.unusedSimpArgs false
theorem eqA65 (d : Nat) (w : World) (x0 y0 : Int) (x1 y1 : Int) (x2 y2 : Int) (x3 y3 : Int) :
  (Op.equalIn (d + 2) 65 (.agg #[.int .i64 x0, .int .i64 x1, .int .i64 x2, .int .i64 x3]) (.agg #[.int .i64 y0, .int .i64 y1, .int .i64 y2, .int .i64 y3])).run Try.prog w = .ok (x0 == y0 && (x1 == y1 && (x2 == y2 && (x3 == y3)))) w := by
 refine eqA_of Try.underlying65 (by kernel_rfl) ?_
 refine eqf_cons (by rfl) (by go_simp; rfl) (by go_simp; rfl) (by go_simp) ?_
 refine eqf_cons (by rfl) (by go_simp; rfl) (by go_simp; rfl) (by go_simp) ?_
 refine eqf_cons (by rfl) (by go_simp; rfl) (by go_simp; rfl) (by go_simp) ?_
 exact eqf_last (by rfl) (by go_simp; rfl) (by go_simp; rfl) (by go_simp)
end Go.Proofs.Ytalimpniimgheaa.Fn
namespace Go.Proofs.Ytalimpniimgheaa.Fn
open Go.RowKit Go.Proofs.YtalimpniimgheaaW.PrintWords Go.Proofs.YtalimpniimgheaaW.PrintLast Go.Proofs.YtalimpniimgheaaW.PrintMore
attribute [local go_sem] max2_int min2_int max_two min_two max_three min_three max_four min_four
set_option linter.unusedVariables false
set_option linter.unusedSimpArgs false
attribute [local go_sem high] eqA65
def journal_Entry_77.l0 : Nat → List (S65) → List (S65) → Int → Int → Option (Bool)
 | 0, _, _, _, _ => none
 | k + 1, x0, x1, x12, x13 => if x13 < x12 then (if 0 ≤ x13 then (if x13 < (x0.length : Int) then (if x13 < (x1.length : Int) then (if (!(((rd_T65 x0 x13).f0) == ((rd_T65 x1 x13).f0)) || (!(((rd_T65 x0 x13).f1) == ((rd_T65 x1 x13).f1)) || (!(((rd_T65 x0 x13).f2) == ((rd_T65 x1 x13).f2)) || (!(((rd_T65 x0 x13).f3) == ((rd_T65 x1 x13).f3)))))) = true then (some false) else (journal_Entry_77.l0 k x0 x1 x12 (wrap64 (x13 + 1)))) else (none)) else (none)) else (none)) else (some true)
def journal_Entry_77.f (k : Nat) (l0 : List (S65)) (l1 : List (S65)) : Option (Bool) := if (l0.length : Int) = (l1.length : Int) then (journal_Entry_77.l0 k l0 l1 (l0.length : Int) 0) else (some false)
end Go.Proofs.Ytalimpniimgheaa.Fn
namespace Go.Proofs.Ytalimpniimgheaa.Fn
open Go.RowKit Go.Proofs.YtalimpniimgheaaW.PrintWords Go.Proofs.YtalimpniimgheaaW.PrintLast Go.Proofs.YtalimpniimgheaaW.PrintMore
attribute [local go_sem] max2_int min2_int max_two min_two max_three min_three max_four min_four
set_option linter.unusedVariables false
set_option linter.unusedSimpArgs false
def journal_Same.f (k : Nat) (l0 : List (S65)) (l1 : List (S65)) : Option (Bool) := (journal_Entry_77.f k l0 l1).bind fun t230 => (some t230)
end Go.Proofs.Ytalimpniimgheaa.Fn
namespace Go.Proofs.Ytalimpniimgheaa.Fn
open Go.RowKit Go.Proofs.YtalimpniimgheaaW.PrintWords Go.Proofs.YtalimpniimgheaaW.PrintLast Go.Proofs.YtalimpniimgheaaW.PrintMore
attribute [local go_sem] max2_int min2_int max_two min_two max_three min_three max_four min_four
set_option linter.unusedVariables false
set_option linter.unusedSimpArgs false
def parcloseref23_Word.f (a0 : Int) : Option (ByteArray) := (some (([(⟨#[97, 99, 99, 101, 112, 116]⟩ : ByteArray), (⟨#[114, 101, 102, 117, 115, 101]⟩ : ByteArray), (⟨#[97, 115, 107]⟩ : ByteArray), (⟨#[114, 97, 110]⟩ : ByteArray), (⟨#[101, 110, 100, 101, 100]⟩ : ByteArray), (⟨#[111, 118, 101, 114]⟩ : ByteArray), (⟨#[109, 105, 115, 115, 101, 100]⟩ : ByteArray), (⟨#[114, 111, 115, 101]⟩ : ByteArray), (⟨#[100, 114, 111, 112, 112, 101, 100]⟩ : ByteArray), (⟨#[102, 101, 108, 108]⟩ : ByteArray), (⟨#[115, 101, 114, 118, 101, 100]⟩ : ByteArray), (⟨#[111, 112]⟩ : ByteArray), (⟨#[102, 97, 117, 108, 116]⟩ : ByteArray), (⟨#[111, 114, 100, 101, 114]⟩ : ByteArray), (⟨#[109, 97, 114, 107]⟩ : ByteArray)] : List ByteArray) : List ByteArray)).bind fun y224 => (if a0 < 0 then (some (⟨#[]⟩ : ByteArray)) else (if a0 ≥ (y224.length : Int) then (some (⟨#[]⟩ : ByteArray)) else (if 0 ≤ a0 then (if a0 < (y224.length : Int) then (some (rdOf ByteArray.empty y224 a0)) else (none)) else (none))))
end Go.Proofs.Ytalimpniimgheaa.Fn
namespace Go.Proofs.Ytalimpniimgheaa.Fn
open Go.RowKit Go.Proofs.YtalimpniimgheaaW.PrintWords Go.Proofs.YtalimpniimgheaaW.PrintLast Go.Proofs.YtalimpniimgheaaW.PrintMore
set_option linter.unusedVariables false
set_option linter.unusedSimpArgs false
attribute [local go_sem] max2_mx min2_mn max_two min_two
instance : DecidableEq S64 := fun a b => decidable_of_iff (a.f0 = b.f0 ∧ a.f1 = b.f1 ∧ a.f2 = b.f2 ∧ a.f3 = b.f3) (by cases a; cases b; simp)
instance : DecidableEq S65 := fun a b => decidable_of_iff (a.f0 = b.f0 ∧ a.f1 = b.f1 ∧ a.f2 = b.f2 ∧ a.f3 = b.f3) (by cases a; cases b; simp)
def toE (x : S64) : S65 := ⟨x.f0, x.f1, x.f2, x.f3⟩
def toR (x : S65) : S64 := ⟨x.f0, x.f1, x.f2, x.f3⟩
def words : List ByteArray := [(⟨#[97, 99, 99, 101, 112, 116]⟩ : ByteArray), (⟨#[114, 101, 102, 117, 115, 101]⟩ : ByteArray), (⟨#[97, 115, 107]⟩ : ByteArray), (⟨#[114, 97, 110]⟩ : ByteArray), (⟨#[101, 110, 100, 101, 100]⟩ : ByteArray), (⟨#[111, 118, 101, 114]⟩ : ByteArray), (⟨#[109, 105, 115, 115, 101, 100]⟩ : ByteArray), (⟨#[114, 111, 115, 101]⟩ : ByteArray), (⟨#[100, 114, 111, 112, 112, 101, 100]⟩ : ByteArray), (⟨#[102, 101, 108, 108]⟩ : ByteArray), (⟨#[115, 101, 114, 118, 101, 100]⟩ : ByteArray), (⟨#[111, 112]⟩ : ByteArray), (⟨#[102, 97, 117, 108, 116]⟩ : ByteArray), (⟨#[111, 114, 100, 101, 114]⟩ : ByteArray), (⟨#[109, 97, 114, 107]⟩ : ByteArray)]
def wordOf (k : Int) : ByteArray := if 0 ≤ k ∧ k < 15 then words.getD k.toNat ⟨#[]⟩ else ⟨#[]⟩
end Go.Proofs.Ytalimpniimgheaa.Fn
namespace Go.Proofs.Ytalimpniimgheaa.Fn
open Go.RowKit Go.Proofs.YtalimpniimgheaaW.PrintWords Go.Proofs.YtalimpniimgheaaW.PrintLast Go.Proofs.YtalimpniimgheaaW.PrintMore
attribute [local go_sem] max2_int min2_int max_two min_two max_three min_three max_four min_four
set_option linter.unusedVariables false
set_option linter.unusedSimpArgs false
def gantt_rans.l0 : Nat → List (S97) → List (S65) → Int → Int → Option ((List (S97)))
 | 0, _, _, _, _ => none
 | k + 1, x3, x6, x7, x8 => if x8 < x7 then (if 0 ≤ x8 then (if x8 < (x6.length : Int) then (if ((rd_T65 x6 x8).f1) = 3 then (if ((rd_T65 x6 x8).f0) ≥ 0 then (if ((rd_T65 x6 x8).f0) < 4611686018427387904 then (if x3.length < 4398046511104 then (gantt_rans.l0 k (x3 ++ [(⟨(rd_T65 x6 x8).f0, wrap64 (((rd_T65 x6 x8).f0) + 1), (rd_T65 x6 x8).f2, (rd_T65 x6 x8).f3⟩ : S97)]) x6 x7 (wrap64 (x8 + 1))) else (none)) else (gantt_rans.l0 k x3 x6 x7 (wrap64 (x8 + 1)))) else (gantt_rans.l0 k x3 x6 x7 (wrap64 (x8 + 1)))) else (gantt_rans.l0 k x3 x6 x7 (wrap64 (x8 + 1)))) else (none)) else (none)) else (some x3)
def gantt_rans.f (k : Nat) (l0 : List (S65)) : Option ((List (S97))) := gantt_rans.l0 k ([] : List (S97)) l0 (l0.length : Int) 0
set_option maxHeartbeats 8000000 in
set_option maxRecDepth 100000 in
theorem gantt_rans.calls (k : Nat) (A0 : Option Addr) (c0 : Nat) (l0 : List (S65)) (r : List (S97)) (w : World) (hr0 : Kd.C k65 w A0 l0.length l0) (hc0 : l0.length ≤ c0) (h : gantt_rans.f k l0 = some r) :
  Calls Try.prog 72 #[.slice A0 l0.length c0] w fun e w' => ∃ v0_ : Value, e = .returned (v0_) ∧ Kd.R k97 97 w' w.heap.size (fun _ => True) v0_ r ∧ Below w.heap.size w w' := by
 have hu65 := Try.underlying65
 have hu97 := Try.underlying97
 have HR0 := asd hr0
 have HC0 := asd hc0
 clear hr0 hc0
 have HB := asd (Below.refl w.heap.size w)
 have H : (gantt_rans.l0 k ([] : List (S97)) l0 (l0.length : Int) 0) = some r := h
 clear h
 have H' := asd H
 clear H
 go_enter Try.func72, Try.ntmps72
 go_wp2
 go_loopg [3, 8] k (fun kq v3 v8 w' => ∃ (x3_1 : List (S97)) (x8_1 : Int), v8 = .int .i64 x8_1 ∧ Aside0 (gantt_rans.l0 kq x3_1 l0 (l0.length : Int) x8_1 = some r) ∧ Aside0 (kq ≤ k) ∧ Aside0 (Kd.R k97 97 w' w.heap.size (fun _ => True) v3 x3_1) ∧ Aside0 (Below w.heap.size w w'))
 case atStart => exact ⟨(([] : List (S97))), (0), (by first | rfl | (simp; done) | (simp [*]; done)), H', ⟨Nat.le_refl _⟩, ⟨by first | exact Kd.R_nil _ _ _ _ _ | exact Kd.N_nil _ _ _ _ _ | exact Kd.V_nil _ _ _ _ _ | exact Kd.Q_nil _ _ _ _ _ | exact Kd.S_nil _ _ _ _ _⟩, ⟨by repeat (first | (with_reducible first | exact HB.out | apply wa | apply wn | apply wd) | exact HB.out)⟩⟩
 case round =>
  clear H'
  obtain ⟨x3_1, x8_1, rfl, HA, HK1, HO_3, HB⟩ := hrel
  cases gk with
  | zero => exact absurd HA.out (by simp [gantt_rans.l0])
  | succ k1 =>
   have H := HA.out
   clear HA
   simp only [gantt_rans.l0] at H
   by_cases c2 : x8_1 < (l0.length : Int)
   ·rw [if_pos c2] at H
    have c2b0 : decide (x8_1 < (l0.length : Int)) = true := decide_eq_true c2
    clear c2
    by_cases c3 : 0 ≤ x8_1
    ·rw [if_pos c3] at H
     have c3b0 : decide (0 ≤ x8_1) = true := decide_eq_true c3
     clear c3
     by_cases c4 : x8_1 < (l0.length : Int)
     ·rw [if_pos c4] at H
      have c4b0 : decide (x8_1 < (l0.length : Int)) = true := decide_eq_true c4
      clear c4
      by_cases c5 : ((rd_T65 l0 x8_1).f1) = 3
      ·rw [if_pos c5] at H
       have c5b0 : (((rd_T65 l0 x8_1).f1) == 3) = true := beq_iff_eq.mpr c5
       have c5b1 : (((rd_T65 l0 x8_1).f1) != 3) = false := bne_eq_false_iff_eq.mpr c5
       clear c5
       by_cases c6 : ((rd_T65 l0 x8_1).f0) ≥ 0
       ·rw [if_pos c6] at H
        have c6b0 : decide (0 ≤ ((rd_T65 l0 x8_1).f0)) = true := decide_eq_true c6
        clear c6
        by_cases c7 : ((rd_T65 l0 x8_1).f0) < 4611686018427387904
        ·rw [if_pos c7] at H
         have c7b0 : decide (((rd_T65 l0 x8_1).f0) < 4611686018427387904) = true := decide_eq_true c7
         clear c7
         by_cases c8 : x3_1.length < 4398046511104
         ·rw [if_pos c8] at H
          have LMc8 := asd c8
          clear c8
          obtain ⟨y143, hy143⟩ : ∃ y_ : List (S97), y_ = (x3_1 ++ [(⟨(rd_T65 l0 x8_1).f0, wrap64 (((rd_T65 l0 x8_1).f0) + 1), (rd_T65 l0 x8_1).f2, (rd_T65 l0 x8_1).f3⟩ : S97)]) := ⟨_, rfl⟩
          replace H : (gantt_rans.l0 k1 y143 l0 (l0.length : Int) (wrap64 (x8_1 + 1))) = some r := by first | (rw [hy143]; with_reducible exact H) | (have H2_ := (Option.bind_some _ _).symm.trans H; rw [hy143]; with_reducible exact H2_) | (have H2_ := (Option.bind_some _ _).symm.trans H; with_reducible exact H2_) | with_reducible exact H | (rw [hy143]; exact H) | exact H
          have Ny143 := asd hy143
          clear hy143
          have H' := asd H
          clear H
          have p141 : 0 ≤ (x8_1 : Int) := of_decide_eq_true (by assumption)
          have q141 : x8_1 < (l0.length : Int) := of_decide_eq_true (by assumption)
          obtain ⟨ad141, e141, hx141_0, hx141_1, hx141_2, hx141_3⟩ := at_T65 HR0.out x8_1 p141 q141
          cases e141
          replace hx141_0 := (HB.out.cell (World.block_lt_of_cell? w _ hx141_0)).trans hx141_0
          replace hx141_1 := (HB.out.cell (World.block_lt_of_cell? w _ hx141_1)).trans hx141_1
          replace hx141_2 := (HB.out.cell (World.block_lt_of_cell? w _ hx141_2)).trans hx141_2
          replace hx141_3 := (HB.out.cell (World.block_lt_of_cell? w _ hx141_3)).trans hx141_3
          replace p141 := eq_true p141
          replace q141 := eq_true q141
          go_wp2_with (first | ((with_reducible refine gate_dst (N := 5) rfl ?_); refine box_event ?hg (N := 5) ?hd (cs := #[.int .i64 0, .int .i64 0, .int .i64 0, .int .i64 0]) (t := 65) ?hr ?_; (case hd => rfl); (case hg => rfl); (case hr => first | (go_simp; done) | (go_simp; rfl)); intro gb142 hg w9 hbox hb; have n0_ := asd (Kd.R_below (by (with_reducible repeat (first | apply Kd.R_alloc | apply Kd.R_drewN | apply Kd.R_drew)); exact HO_3.out) hb); have n1_ := asd (below_step (by repeat (first | (with_reducible first | exact HB.out | apply wa | apply wn | apply wd) | exact HB.out)) hb); have n2_ := asd (hbox); have n3_ := asd ((by rw [hg]; exact (below_size (by repeat (first | (with_reducible first | exact HB.out | apply wa | apply wn | apply wd) | exact HB.out))) : w.heap.size ≤ gb142)); have n4_ := asd ((by rw [hg]; exact (below_size (by repeat (first | (with_reducible first | exact HB.out | apply wa | apply wn | apply wd) | exact HB.out))) : w.heap.size ≤ gb142)); clear HO_3; clear HB; have HO_3 := n0_; have HB := n1_; have BK142 := n2_; have GW142 := n3_; have GE142 := n4_; clear n0_ n1_ n2_ n3_ n4_; clear hb hbox hg; have hcz10_0 : w9.cell? ⟨gb142, 0, none⟩ = some (.int .i64 0) := (blk_cell BK142.out 0).trans rfl; have hcz10_1 : w9.cell? ⟨gb142, 1, none⟩ = some (.int .i64 0) := (blk_cell BK142.out 1).trans rfl; have hcz10_2 : w9.cell? ⟨gb142, 2, none⟩ = some (.int .i64 0) := (blk_cell BK142.out 2).trans rfl; have hcz10_3 : w9.cell? ⟨gb142, 3, none⟩ = some (.int .i64 0) := (blk_cell BK142.out 3).trans rfl; have hfz10_0 := blk_frozen BK142.out 0; have hfz10_1 := blk_frozen BK142.out 1; have hfz10_2 := blk_frozen BK142.out 2; have hfz10_3 := blk_frozen BK142.out 3) | ((with_reducible refine gate_builtin (b := .append) (xs := #[.tmp 25, .tmp 36]) rfl ?_); at_builtin; refine Kd.R_append k97 (w0 := w) w.heap.size rfl (.tmp 25) (.tmp 36) 44 97 (.agg #[(.int .i64 0), (.int .i64 0), (.int .i64 0), (.int .i64 0)]) 32 rfl Try.underlying44 info97 rfl (by decide) (by omega) u3 x3_1 (⟨(rd_T65 l0 x8_1).f0, wrap64 (((rd_T65 l0 x8_1).f0) + 1), (rd_T65 l0 x8_1).f2, (rd_T65 l0 x8_1).f3⟩ : S97) [.int .i64 ((rd_T65 l0 x8_1).f0), .int .i64 (wrap64 (((rd_T65 l0 x8_1).f0) + 1)), .int .i64 ((rd_T65 l0 x8_1).f2), .int .i64 ((rd_T65 l0 x8_1).f3)] (fun _ => True) (fun _ => False) rfl (by first | (go_simp; done) | (go_simp; rfl)) ?aP (fun _ hk => hk.elim) ?aF ?aO ?aB ?aS ?aL ?_; (case aP => exact k97_mkM _ _ _ (⟨(rd_T65 l0 x8_1).f0, wrap64 (((rd_T65 l0 x8_1).f0) + 1), (rd_T65 l0 x8_1).f2, (rd_T65 l0 x8_1).f3⟩ : S97)); (case aB => exact (by repeat (first | (with_reducible first | exact HB.out | apply wa | apply wn | apply wd | refine ws ?_ GE142.out) | exact HB.out))); (case aF => exact (fun _ _ => trivial)); (case aO => exact (by (with_reducible repeat (first | apply Kd.R_alloc | apply Kd.R_drewN | apply Kd.R_drew)); exact Kd.R_mono (Kd.R_far (p := ⟨gb142, 3, none⟩) (Kd.R_far (p := ⟨gb142, 2, none⟩) (Kd.R_far (p := ⟨gb142, 1, none⟩) (Kd.R_far (p := ⟨gb142, 0, none⟩) (Kd.R_types HO_3.out BK142.out (by decide)) (fun _ hk => hk.2) (.int .i64 ((rd_T65 l0 x8_1).f0))) (fun _ hk => hk.2) (.int .i64 ((rd_T65 l0 x8_1).f1))) (fun _ hk => hk.2) (.int .i64 ((rd_T65 l0 x8_1).f2))) (fun _ hk => hk.2) (.int .i64 ((rd_T65 l0 x8_1).f3))) (fun _ hk => trivial))); (case aS => exact (below_size (by repeat (first | (with_reducible first | exact HB.out | apply wa | apply wn | apply wd | refine ws ?_ GE142.out) | exact HB.out)))); (case aL => have := LMc8.out; omega); intro v144 w11 ho hb hg hat; rw [← Ny143.out] at ho; have n0_ := asd (blk_grown (g := gb142) (o := .cells #[.int .i64 ((rd_T65 l0 x8_1).f0), .int .i64 ((rd_T65 l0 x8_1).f1), .int .i64 ((rd_T65 l0 x8_1).f2), .int .i64 ((rd_T65 l0 x8_1).f3)] 65 (0, 0)) (by (with_reducible repeat first | apply bn | apply bd | apply ba); refine blk_put (cs := #[.int .i64 ((rd_T65 l0 x8_1).f0), .int .i64 ((rd_T65 l0 x8_1).f1), .int .i64 ((rd_T65 l0 x8_1).f2), .int .i64 0]) ?_ 3 _ rfl; (with_reducible repeat first | apply bn | apply bd | apply ba); refine blk_put (cs := #[.int .i64 ((rd_T65 l0 x8_1).f0), .int .i64 ((rd_T65 l0 x8_1).f1), .int .i64 0, .int .i64 0]) ?_ 2 _ rfl; (with_reducible repeat first | apply bn | apply bd | apply ba); refine blk_put (cs := #[.int .i64 ((rd_T65 l0 x8_1).f0), .int .i64 0, .int .i64 0, .int .i64 0]) ?_ 1 _ rfl; (with_reducible repeat first | apply bn | apply bd | apply ba); refine blk_put (cs := #[.int .i64 0, .int .i64 0, .int .i64 0, .int .i64 0]) ?_ 0 _ rfl; (with_reducible repeat first | apply bn | apply bd | apply ba); exact BK142.out) hg (Kd.R_ne HO_3.out BK142.out (by decide))); have n1_ := asd (hb); have n2_ := asd (ho); clear BK142; clear HB; clear HO_3; have BK142 := n0_; have HB := n1_; have HO145 := n2_; clear n0_ n1_ n2_; clear ho hb hg hat))
          go_roundg k1
          case measure => have := HK1.out; omega
          case rel => exact ⟨(y143), (wrap64 (x8_1 + 1)), (by first | rfl | (simp; done) | (simp [*]; done)), H', ⟨by have := HK1.out; omega⟩, ⟨by (with_reducible repeat (first | apply Kd.R_alloc | apply Kd.R_drewN | apply Kd.R_drew)); exact HO145.out⟩, ⟨by repeat (first | (with_reducible first | exact HB.out | apply wa | apply wn | apply wd | refine ws ?_ GE142.out) | exact HB.out)⟩⟩
         ·rw [if_neg c8] at H
          exact absurd H (by simp)
        ·rw [if_neg c7] at H
         have c7b0 : decide (((rd_T65 l0 x8_1).f0) < 4611686018427387904) = false := decide_eq_false c7
         clear c7
         have H' := asd H
         clear H
         have p141 : 0 ≤ (x8_1 : Int) := of_decide_eq_true (by assumption)
         have q141 : x8_1 < (l0.length : Int) := of_decide_eq_true (by assumption)
         obtain ⟨ad141, e141, hx141_0, hx141_1, hx141_2, hx141_3⟩ := at_T65 HR0.out x8_1 p141 q141
         cases e141
         replace hx141_0 := (HB.out.cell (World.block_lt_of_cell? w _ hx141_0)).trans hx141_0
         replace hx141_1 := (HB.out.cell (World.block_lt_of_cell? w _ hx141_1)).trans hx141_1
         replace hx141_2 := (HB.out.cell (World.block_lt_of_cell? w _ hx141_2)).trans hx141_2
         replace hx141_3 := (HB.out.cell (World.block_lt_of_cell? w _ hx141_3)).trans hx141_3
         replace p141 := eq_true p141
         replace q141 := eq_true q141
         go_wp2_with (first | ((with_reducible refine gate_dst (N := 5) rfl ?_); refine box_event ?hg (N := 5) ?hd (cs := #[.int .i64 0, .int .i64 0, .int .i64 0, .int .i64 0]) (t := 65) ?hr ?_; (case hd => rfl); (case hg => rfl); (case hr => first | (go_simp; done) | (go_simp; rfl)); intro gb142 hg w12 hbox hb; have n0_ := asd (Kd.R_below (by (with_reducible repeat (first | apply Kd.R_alloc | apply Kd.R_drewN | apply Kd.R_drew)); exact HO_3.out) hb); have n1_ := asd (below_step (by repeat (first | (with_reducible first | exact HB.out | apply wa | apply wn | apply wd) | exact HB.out)) hb); have n2_ := asd (hbox); have n3_ := asd ((by rw [hg]; exact (below_size (by repeat (first | (with_reducible first | exact HB.out | apply wa | apply wn | apply wd) | exact HB.out))) : w.heap.size ≤ gb142)); have n4_ := asd ((by rw [hg]; exact (below_size (by repeat (first | (with_reducible first | exact HB.out | apply wa | apply wn | apply wd) | exact HB.out))) : w.heap.size ≤ gb142)); clear HO_3; clear HB; have HO_3 := n0_; have HB := n1_; have BK142 := n2_; have GW142 := n3_; have GE142 := n4_; clear n0_ n1_ n2_ n3_ n4_; clear hb hbox hg; have hcz13_0 : w12.cell? ⟨gb142, 0, none⟩ = some (.int .i64 0) := (blk_cell BK142.out 0).trans rfl; have hcz13_1 : w12.cell? ⟨gb142, 1, none⟩ = some (.int .i64 0) := (blk_cell BK142.out 1).trans rfl; have hcz13_2 : w12.cell? ⟨gb142, 2, none⟩ = some (.int .i64 0) := (blk_cell BK142.out 2).trans rfl; have hcz13_3 : w12.cell? ⟨gb142, 3, none⟩ = some (.int .i64 0) := (blk_cell BK142.out 3).trans rfl; have hfz13_0 := blk_frozen BK142.out 0; have hfz13_1 := blk_frozen BK142.out 1; have hfz13_2 := blk_frozen BK142.out 2; have hfz13_3 := blk_frozen BK142.out 3))
         go_roundg k1
         case measure => have := HK1.out; omega
         case rel => exact ⟨(x3_1), (wrap64 (x8_1 + 1)), (by first | rfl | (simp; done) | (simp [*]; done)), H', ⟨by have := HK1.out; omega⟩, ⟨by (with_reducible repeat (first | apply Kd.R_alloc | apply Kd.R_drewN | apply Kd.R_drew)); exact Kd.R_mono (Kd.R_far (p := ⟨gb142, 3, none⟩) (Kd.R_far (p := ⟨gb142, 2, none⟩) (Kd.R_far (p := ⟨gb142, 1, none⟩) (Kd.R_far (p := ⟨gb142, 0, none⟩) (Kd.R_types HO_3.out BK142.out (by decide)) (fun _ hk => hk.2) (.int .i64 ((rd_T65 l0 x8_1).f0))) (fun _ hk => hk.2) (.int .i64 ((rd_T65 l0 x8_1).f1))) (fun _ hk => hk.2) (.int .i64 ((rd_T65 l0 x8_1).f2))) (fun _ hk => hk.2) (.int .i64 ((rd_T65 l0 x8_1).f3))) (fun _ hk => trivial)⟩, ⟨by repeat (first | (with_reducible first | exact HB.out | apply wa | apply wn | apply wd | refine ws ?_ GE142.out) | exact HB.out)⟩⟩
       ·rw [if_neg c6] at H
        have c6b0 : decide (0 ≤ ((rd_T65 l0 x8_1).f0)) = false := decide_eq_false c6
        clear c6
        have H' := asd H
        clear H
        have p141 : 0 ≤ (x8_1 : Int) := of_decide_eq_true (by assumption)
        have q141 : x8_1 < (l0.length : Int) := of_decide_eq_true (by assumption)
        obtain ⟨ad141, e141, hx141_0, hx141_1, hx141_2, hx141_3⟩ := at_T65 HR0.out x8_1 p141 q141
        cases e141
        replace hx141_0 := (HB.out.cell (World.block_lt_of_cell? w _ hx141_0)).trans hx141_0
        replace hx141_1 := (HB.out.cell (World.block_lt_of_cell? w _ hx141_1)).trans hx141_1
        replace hx141_2 := (HB.out.cell (World.block_lt_of_cell? w _ hx141_2)).trans hx141_2
        replace hx141_3 := (HB.out.cell (World.block_lt_of_cell? w _ hx141_3)).trans hx141_3
        replace p141 := eq_true p141
        replace q141 := eq_true q141
        go_wp2_with (first | ((with_reducible refine gate_dst (N := 5) rfl ?_); refine box_event ?hg (N := 5) ?hd (cs := #[.int .i64 0, .int .i64 0, .int .i64 0, .int .i64 0]) (t := 65) ?hr ?_; (case hd => rfl); (case hg => rfl); (case hr => first | (go_simp; done) | (go_simp; rfl)); intro gb142 hg w14 hbox hb; have n0_ := asd (Kd.R_below (by (with_reducible repeat (first | apply Kd.R_alloc | apply Kd.R_drewN | apply Kd.R_drew)); exact HO_3.out) hb); have n1_ := asd (below_step (by repeat (first | (with_reducible first | exact HB.out | apply wa | apply wn | apply wd) | exact HB.out)) hb); have n2_ := asd (hbox); have n3_ := asd ((by rw [hg]; exact (below_size (by repeat (first | (with_reducible first | exact HB.out | apply wa | apply wn | apply wd) | exact HB.out))) : w.heap.size ≤ gb142)); have n4_ := asd ((by rw [hg]; exact (below_size (by repeat (first | (with_reducible first | exact HB.out | apply wa | apply wn | apply wd) | exact HB.out))) : w.heap.size ≤ gb142)); clear HO_3; clear HB; have HO_3 := n0_; have HB := n1_; have BK142 := n2_; have GW142 := n3_; have GE142 := n4_; clear n0_ n1_ n2_ n3_ n4_; clear hb hbox hg; have hcz15_0 : w14.cell? ⟨gb142, 0, none⟩ = some (.int .i64 0) := (blk_cell BK142.out 0).trans rfl; have hcz15_1 : w14.cell? ⟨gb142, 1, none⟩ = some (.int .i64 0) := (blk_cell BK142.out 1).trans rfl; have hcz15_2 : w14.cell? ⟨gb142, 2, none⟩ = some (.int .i64 0) := (blk_cell BK142.out 2).trans rfl; have hcz15_3 : w14.cell? ⟨gb142, 3, none⟩ = some (.int .i64 0) := (blk_cell BK142.out 3).trans rfl; have hfz15_0 := blk_frozen BK142.out 0; have hfz15_1 := blk_frozen BK142.out 1; have hfz15_2 := blk_frozen BK142.out 2; have hfz15_3 := blk_frozen BK142.out 3))
        go_roundg k1
        case measure => have := HK1.out; omega
        case rel => exact ⟨(x3_1), (wrap64 (x8_1 + 1)), (by first | rfl | (simp; done) | (simp [*]; done)), H', ⟨by have := HK1.out; omega⟩, ⟨by (with_reducible repeat (first | apply Kd.R_alloc | apply Kd.R_drewN | apply Kd.R_drew)); exact Kd.R_mono (Kd.R_far (p := ⟨gb142, 3, none⟩) (Kd.R_far (p := ⟨gb142, 2, none⟩) (Kd.R_far (p := ⟨gb142, 1, none⟩) (Kd.R_far (p := ⟨gb142, 0, none⟩) (Kd.R_types HO_3.out BK142.out (by decide)) (fun _ hk => hk.2) (.int .i64 ((rd_T65 l0 x8_1).f0))) (fun _ hk => hk.2) (.int .i64 ((rd_T65 l0 x8_1).f1))) (fun _ hk => hk.2) (.int .i64 ((rd_T65 l0 x8_1).f2))) (fun _ hk => hk.2) (.int .i64 ((rd_T65 l0 x8_1).f3))) (fun _ hk => trivial)⟩, ⟨by repeat (first | (with_reducible first | exact HB.out | apply wa | apply wn | apply wd | refine ws ?_ GE142.out) | exact HB.out)⟩⟩
      ·rw [if_neg c5] at H
       have c5b0 : (((rd_T65 l0 x8_1).f1) == 3) = false := beq_eq_false_iff_ne.mpr c5
       have c5b1 : (((rd_T65 l0 x8_1).f1) != 3) = true := bne_iff_ne.mpr c5
       have H' := asd H
       clear H
       have p141 : 0 ≤ (x8_1 : Int) := of_decide_eq_true (by assumption)
       have q141 : x8_1 < (l0.length : Int) := of_decide_eq_true (by assumption)
       obtain ⟨ad141, e141, hx141_0, hx141_1, hx141_2, hx141_3⟩ := at_T65 HR0.out x8_1 p141 q141
       cases e141
       replace hx141_0 := (HB.out.cell (World.block_lt_of_cell? w _ hx141_0)).trans hx141_0
       replace hx141_1 := (HB.out.cell (World.block_lt_of_cell? w _ hx141_1)).trans hx141_1
       replace hx141_2 := (HB.out.cell (World.block_lt_of_cell? w _ hx141_2)).trans hx141_2
       replace hx141_3 := (HB.out.cell (World.block_lt_of_cell? w _ hx141_3)).trans hx141_3
       replace p141 := eq_true p141
       replace q141 := eq_true q141
       go_wp2_with (first | ((with_reducible refine gate_dst (N := 5) rfl ?_); refine box_event ?hg (N := 5) ?hd (cs := #[.int .i64 0, .int .i64 0, .int .i64 0, .int .i64 0]) (t := 65) ?hr ?_; (case hd => rfl); (case hg => rfl); (case hr => first | (go_simp; done) | (go_simp; rfl)); intro gb142 hg w16 hbox hb; have n0_ := asd (Kd.R_below (by (with_reducible repeat (first | apply Kd.R_alloc | apply Kd.R_drewN | apply Kd.R_drew)); exact HO_3.out) hb); have n1_ := asd (below_step (by repeat (first | (with_reducible first | exact HB.out | apply wa | apply wn | apply wd) | exact HB.out)) hb); have n2_ := asd (hbox); have n3_ := asd ((by rw [hg]; exact (below_size (by repeat (first | (with_reducible first | exact HB.out | apply wa | apply wn | apply wd) | exact HB.out))) : w.heap.size ≤ gb142)); have n4_ := asd ((by rw [hg]; exact (below_size (by repeat (first | (with_reducible first | exact HB.out | apply wa | apply wn | apply wd) | exact HB.out))) : w.heap.size ≤ gb142)); clear HO_3; clear HB; have HO_3 := n0_; have HB := n1_; have BK142 := n2_; have GW142 := n3_; have GE142 := n4_; clear n0_ n1_ n2_ n3_ n4_; clear hb hbox hg; have hcz17_0 : w16.cell? ⟨gb142, 0, none⟩ = some (.int .i64 0) := (blk_cell BK142.out 0).trans rfl; have hcz17_1 : w16.cell? ⟨gb142, 1, none⟩ = some (.int .i64 0) := (blk_cell BK142.out 1).trans rfl; have hcz17_2 : w16.cell? ⟨gb142, 2, none⟩ = some (.int .i64 0) := (blk_cell BK142.out 2).trans rfl; have hcz17_3 : w16.cell? ⟨gb142, 3, none⟩ = some (.int .i64 0) := (blk_cell BK142.out 3).trans rfl; have hfz17_0 := blk_frozen BK142.out 0; have hfz17_1 := blk_frozen BK142.out 1; have hfz17_2 := blk_frozen BK142.out 2; have hfz17_3 := blk_frozen BK142.out 3))
       go_roundg k1
       case measure => have := HK1.out; omega
       case rel => exact ⟨(x3_1), (wrap64 (x8_1 + 1)), (by first | rfl | (simp; done) | (simp [*]; done)), H', ⟨by have := HK1.out; omega⟩, ⟨by (with_reducible repeat (first | apply Kd.R_alloc | apply Kd.R_drewN | apply Kd.R_drew)); exact Kd.R_mono (Kd.R_far (p := ⟨gb142, 3, none⟩) (Kd.R_far (p := ⟨gb142, 2, none⟩) (Kd.R_far (p := ⟨gb142, 1, none⟩) (Kd.R_far (p := ⟨gb142, 0, none⟩) (Kd.R_types HO_3.out BK142.out (by decide)) (fun _ hk => hk.2) (.int .i64 ((rd_T65 l0 x8_1).f0))) (fun _ hk => hk.2) (.int .i64 ((rd_T65 l0 x8_1).f1))) (fun _ hk => hk.2) (.int .i64 ((rd_T65 l0 x8_1).f2))) (fun _ hk => hk.2) (.int .i64 ((rd_T65 l0 x8_1).f3))) (fun _ hk => trivial)⟩, ⟨by repeat (first | (with_reducible first | exact HB.out | apply wa | apply wn | apply wd | refine ws ?_ GE142.out) | exact HB.out)⟩⟩
     ·rw [if_neg c4] at H
      exact absurd H (by simp)
    ·rw [if_neg c3] at H
     exact absurd H (by simp)
   ·rw [if_neg c2] at H
    have c2b0 : decide (x8_1 < (l0.length : Int)) = false := decide_eq_false c2
    clear c2
    obtain rfl := Option.some.inj H
    go_wp2
    go_ret
    exact ⟨_, by first | rfl | (simp [*] <;> rfl), by (with_reducible repeat (first | apply Kd.R_alloc | apply Kd.R_drewN | apply Kd.R_drew)); exact HO_3.out, by repeat (first | (with_reducible first | exact HB.out | apply wa | apply wn | apply wd) | exact HB.out)⟩
end Go.Proofs.Ytalimpniimgheaa.Fn
namespace Go.Proofs.Ytalimpniimgheaa.Fn
open Go.RowKit Go.Proofs.YtalimpniimgheaaW.PrintWords Go.Proofs.YtalimpniimgheaaW.PrintLast Go.Proofs.YtalimpniimgheaaW.PrintMore
attribute [local go_sem] max2_int min2_int max_two min_two max_three min_three max_four min_four
set_option linter.unusedVariables false
set_option linter.unusedSimpArgs false
def gantt_Bar_grows.f (a0_0 : Int) (a0_1 : Int) (a0_2 : Int) (a0_3 : Int) (a1_0 : Int) (a1_1 : Int) (a1_2 : Int) (a1_3 : Int) : Option (Bool) := if a0_1 = a1_0 then (if a0_2 = a1_2 then (some (a0_3 == a1_3)) else (some false)) else (some false)
set_option maxHeartbeats 8000000 in
set_option maxRecDepth 100000 in
theorem gantt_Bar_grows.calls (a0_0 : Int) (a0_1 : Int) (a0_2 : Int) (a0_3 : Int) (a1_0 : Int) (a1_1 : Int) (a1_2 : Int) (a1_3 : Int) (r : Bool) (w : World) (h : gantt_Bar_grows.f a0_0 a0_1 a0_2 a0_3 a1_0 a1_1 a1_2 a1_3 = some r) :
  Calls Try.prog 73 #[.agg #[.int .i64 a0_0, .int .i64 a0_1, .int .i64 a0_2, .int .i64 a0_3], .agg #[.int .i64 a1_0, .int .i64 a1_1, .int .i64 a1_2, .int .i64 a1_3]] w fun e w' => e = .returned (.bool r) ∧ Below w.heap.size w w' := by
 have hu97 := Try.underlying97
 have HB := asd (Below.refl w.heap.size w)
 have H : (if a0_1 = a1_0 then (if a0_2 = a1_2 then (some (a0_3 == a1_3)) else (some false)) else (some false)) = some r := h
 clear h
 by_cases c3 : a0_1 = a1_0
 ·rw [if_pos c3] at H
  have c3b0 : (a0_1 == a1_0) = true := beq_iff_eq.mpr c3
  have c3b1 : (a0_1 != a1_0) = false := bne_eq_false_iff_eq.mpr c3
  clear c3
  by_cases c4 : a0_2 = a1_2
  ·rw [if_pos c4] at H
   have c4b0 : (a0_2 == a1_2) = true := beq_iff_eq.mpr c4
   have c4b1 : (a0_2 != a1_2) = false := bne_eq_false_iff_eq.mpr c4
   clear c4
   obtain rfl := Option.some.inj H
   go_enter Try.func73, Try.ntmps73
   go_wp2_with (first | ((with_reducible refine gate_dst (N := 2) rfl ?_); refine box_event ?hg (N := 2) ?hd (cs := #[.int .i64 a0_0, .int .i64 a0_1, .int .i64 a0_2, .int .i64 a0_3]) (t := 97) ?hr ?_; (case hd => rfl); (case hg => rfl); (case hr => first | (go_simp; done) | (go_simp; rfl)); intro gb146 hg w5 hbox hb; have n0_ := asd (below_step (by repeat (first | (with_reducible first | exact HB.out | apply wa | apply wn | apply wd) | exact HB.out)) hb); have n1_ := asd (hbox); have n2_ := asd ((by rw [hg]; exact (below_size (by repeat (first | (with_reducible first | exact HB.out | apply wa | apply wn | apply wd) | exact HB.out))) : w.heap.size ≤ gb146)); have n3_ := asd ((by rw [hg]; exact (below_size (by repeat (first | (with_reducible first | exact HB.out | apply wa | apply wn | apply wd) | exact HB.out))) : w.heap.size ≤ gb146)); clear HB; have HB := n0_; have BK146 := n1_; have GW146 := n2_; have GE146 := n3_; clear n0_ n1_ n2_ n3_; clear hb hbox hg) | ((with_reducible refine gate_dst (N := 3) rfl ?_); refine box_event ?hg (N := 3) ?hd (cs := #[.int .i64 a1_0, .int .i64 a1_1, .int .i64 a1_2, .int .i64 a1_3]) (t := 97) ?hr ?_; (case hd => rfl); (case hg => rfl); (case hr => first | (go_simp; done) | (go_simp; rfl)); intro gb147 hg w6 hbox hb; have n0_ := asd (blk_below (g := gb146) (o := .cells #[.int .i64 a0_0, .int .i64 a0_1, .int .i64 a0_2, .int .i64 a0_3] 97 (0, 0)) (by (with_reducible repeat first | apply bn | apply bd | apply ba); exact BK146.out) hb); have n1_ := asd (below_step (by repeat (first | (with_reducible first | exact HB.out | apply wa | apply wn | apply wd | refine ws ?_ GE146.out) | exact HB.out)) hb); have n2_ := asd (hbox); have n3_ := asd ((by rw [hg]; exact (below_size (by repeat (first | (with_reducible first | exact HB.out | apply wa | apply wn | apply wd | refine ws ?_ GE146.out) | exact HB.out))) : w.heap.size ≤ gb147)); have n4_ := asd ((by rw [hg]; exact (below_size (by repeat (first | (with_reducible first | exact HB.out | apply wa | apply wn | apply wd | refine ws ?_ GE146.out) | exact HB.out))) : w.heap.size ≤ gb147)); have n5_ := asd ((by rw [hg]; exact Nat.ne_of_lt (blk_lt (g := gb146) (o := .cells #[.int .i64 a0_0, .int .i64 a0_1, .int .i64 a0_2, .int .i64 a0_3] 97 (0, 0)) (by (with_reducible repeat first | apply bn | apply bd | apply ba); exact BK146.out)) : gb146 ≠ gb147)); have n6_ := asd ((by rw [hg]; exact Nat.ne_of_gt (blk_lt (g := gb146) (o := .cells #[.int .i64 a0_0, .int .i64 a0_1, .int .i64 a0_2, .int .i64 a0_3] 97 (0, 0)) (by (with_reducible repeat first | apply bn | apply bd | apply ba); exact BK146.out)) : gb147 ≠ gb146)); clear BK146; clear HB; have BK146 := n0_; have HB := n1_; have BK147 := n2_; have GW147 := n3_; have GE147 := n4_; have NB146_147 := n5_; have NB147_146 := n6_; clear n0_ n1_ n2_ n3_ n4_ n5_ n6_; clear hb hbox hg; have hnb7 := NB146_147.out; have hnc7 := NB147_146.out; have hcz8_0 : w6.cell? ⟨gb146, 0, none⟩ = some (.int .i64 a0_0) := (blk_cell BK146.out 0).trans rfl; have hcz8_1 : w6.cell? ⟨gb146, 1, none⟩ = some (.int .i64 a0_1) := (blk_cell BK146.out 1).trans rfl; have hcz8_2 : w6.cell? ⟨gb146, 2, none⟩ = some (.int .i64 a0_2) := (blk_cell BK146.out 2).trans rfl; have hcz8_3 : w6.cell? ⟨gb146, 3, none⟩ = some (.int .i64 a0_3) := (blk_cell BK146.out 3).trans rfl; have hfz8_0 := blk_frozen BK146.out 0; have hfz8_1 := blk_frozen BK146.out 1; have hfz8_2 := blk_frozen BK146.out 2; have hfz8_3 := blk_frozen BK146.out 3; have hcz9_0 : w6.cell? ⟨gb147, 0, none⟩ = some (.int .i64 a1_0) := (blk_cell BK147.out 0).trans rfl; have hcz9_1 : w6.cell? ⟨gb147, 1, none⟩ = some (.int .i64 a1_1) := (blk_cell BK147.out 1).trans rfl; have hcz9_2 : w6.cell? ⟨gb147, 2, none⟩ = some (.int .i64 a1_2) := (blk_cell BK147.out 2).trans rfl; have hcz9_3 : w6.cell? ⟨gb147, 3, none⟩ = some (.int .i64 a1_3) := (blk_cell BK147.out 3).trans rfl; have hfz9_0 := blk_frozen BK147.out 0; have hfz9_1 := blk_frozen BK147.out 1; have hfz9_2 := blk_frozen BK147.out 2; have hfz9_3 := blk_frozen BK147.out 3))
   go_ret
   exact ⟨by first | rfl | (simp [*] <;> rfl), by repeat (first | (with_reducible first | exact HB.out | apply wa | apply wn | apply wd | refine ws ?_ GE146.out | refine ws ?_ GE147.out) | exact HB.out)⟩
  ·rw [if_neg c4] at H
   have c4b0 : (a0_2 == a1_2) = false := beq_eq_false_iff_ne.mpr c4
   have c4b1 : (a0_2 != a1_2) = true := bne_iff_ne.mpr c4
   obtain rfl := Option.some.inj H
   go_enter Try.func73, Try.ntmps73
   go_wp2_with (first | ((with_reducible refine gate_dst (N := 2) rfl ?_); refine box_event ?hg (N := 2) ?hd (cs := #[.int .i64 a0_0, .int .i64 a0_1, .int .i64 a0_2, .int .i64 a0_3]) (t := 97) ?hr ?_; (case hd => rfl); (case hg => rfl); (case hr => first | (go_simp; done) | (go_simp; rfl)); intro gb146 hg w10 hbox hb; have n0_ := asd (below_step (by repeat (first | (with_reducible first | exact HB.out | apply wa | apply wn | apply wd) | exact HB.out)) hb); have n1_ := asd (hbox); have n2_ := asd ((by rw [hg]; exact (below_size (by repeat (first | (with_reducible first | exact HB.out | apply wa | apply wn | apply wd) | exact HB.out))) : w.heap.size ≤ gb146)); have n3_ := asd ((by rw [hg]; exact (below_size (by repeat (first | (with_reducible first | exact HB.out | apply wa | apply wn | apply wd) | exact HB.out))) : w.heap.size ≤ gb146)); clear HB; have HB := n0_; have BK146 := n1_; have GW146 := n2_; have GE146 := n3_; clear n0_ n1_ n2_ n3_; clear hb hbox hg) | ((with_reducible refine gate_dst (N := 3) rfl ?_); refine box_event ?hg (N := 3) ?hd (cs := #[.int .i64 a1_0, .int .i64 a1_1, .int .i64 a1_2, .int .i64 a1_3]) (t := 97) ?hr ?_; (case hd => rfl); (case hg => rfl); (case hr => first | (go_simp; done) | (go_simp; rfl)); intro gb147 hg w11 hbox hb; have n0_ := asd (blk_below (g := gb146) (o := .cells #[.int .i64 a0_0, .int .i64 a0_1, .int .i64 a0_2, .int .i64 a0_3] 97 (0, 0)) (by (with_reducible repeat first | apply bn | apply bd | apply ba); exact BK146.out) hb); have n1_ := asd (below_step (by repeat (first | (with_reducible first | exact HB.out | apply wa | apply wn | apply wd | refine ws ?_ GE146.out) | exact HB.out)) hb); have n2_ := asd (hbox); have n3_ := asd ((by rw [hg]; exact (below_size (by repeat (first | (with_reducible first | exact HB.out | apply wa | apply wn | apply wd | refine ws ?_ GE146.out) | exact HB.out))) : w.heap.size ≤ gb147)); have n4_ := asd ((by rw [hg]; exact (below_size (by repeat (first | (with_reducible first | exact HB.out | apply wa | apply wn | apply wd | refine ws ?_ GE146.out) | exact HB.out))) : w.heap.size ≤ gb147)); have n5_ := asd ((by rw [hg]; exact Nat.ne_of_lt (blk_lt (g := gb146) (o := .cells #[.int .i64 a0_0, .int .i64 a0_1, .int .i64 a0_2, .int .i64 a0_3] 97 (0, 0)) (by (with_reducible repeat first | apply bn | apply bd | apply ba); exact BK146.out)) : gb146 ≠ gb147)); have n6_ := asd ((by rw [hg]; exact Nat.ne_of_gt (blk_lt (g := gb146) (o := .cells #[.int .i64 a0_0, .int .i64 a0_1, .int .i64 a0_2, .int .i64 a0_3] 97 (0, 0)) (by (with_reducible repeat first | apply bn | apply bd | apply ba); exact BK146.out)) : gb147 ≠ gb146)); clear BK146; clear HB; have BK146 := n0_; have HB := n1_; have BK147 := n2_; have GW147 := n3_; have GE147 := n4_; have NB146_147 := n5_; have NB147_146 := n6_; clear n0_ n1_ n2_ n3_ n4_ n5_ n6_; clear hb hbox hg; have hnb12 := NB146_147.out; have hnc12 := NB147_146.out; have hcz13_0 : w11.cell? ⟨gb146, 0, none⟩ = some (.int .i64 a0_0) := (blk_cell BK146.out 0).trans rfl; have hcz13_1 : w11.cell? ⟨gb146, 1, none⟩ = some (.int .i64 a0_1) := (blk_cell BK146.out 1).trans rfl; have hcz13_2 : w11.cell? ⟨gb146, 2, none⟩ = some (.int .i64 a0_2) := (blk_cell BK146.out 2).trans rfl; have hcz13_3 : w11.cell? ⟨gb146, 3, none⟩ = some (.int .i64 a0_3) := (blk_cell BK146.out 3).trans rfl; have hfz13_0 := blk_frozen BK146.out 0; have hfz13_1 := blk_frozen BK146.out 1; have hfz13_2 := blk_frozen BK146.out 2; have hfz13_3 := blk_frozen BK146.out 3; have hcz14_0 : w11.cell? ⟨gb147, 0, none⟩ = some (.int .i64 a1_0) := (blk_cell BK147.out 0).trans rfl; have hcz14_1 : w11.cell? ⟨gb147, 1, none⟩ = some (.int .i64 a1_1) := (blk_cell BK147.out 1).trans rfl; have hcz14_2 : w11.cell? ⟨gb147, 2, none⟩ = some (.int .i64 a1_2) := (blk_cell BK147.out 2).trans rfl; have hcz14_3 : w11.cell? ⟨gb147, 3, none⟩ = some (.int .i64 a1_3) := (blk_cell BK147.out 3).trans rfl; have hfz14_0 := blk_frozen BK147.out 0; have hfz14_1 := blk_frozen BK147.out 1; have hfz14_2 := blk_frozen BK147.out 2; have hfz14_3 := blk_frozen BK147.out 3))
   go_ret
   exact ⟨by first | rfl | (simp [*] <;> rfl), by repeat (first | (with_reducible first | exact HB.out | apply wa | apply wn | apply wd | refine ws ?_ GE146.out | refine ws ?_ GE147.out) | exact HB.out)⟩
 ·rw [if_neg c3] at H
  have c3b0 : (a0_1 == a1_0) = false := beq_eq_false_iff_ne.mpr c3
  have c3b1 : (a0_1 != a1_0) = true := bne_iff_ne.mpr c3
  obtain rfl := Option.some.inj H
  go_enter Try.func73, Try.ntmps73
  go_wp2_with (first | ((with_reducible refine gate_dst (N := 2) rfl ?_); refine box_event ?hg (N := 2) ?hd (cs := #[.int .i64 a0_0, .int .i64 a0_1, .int .i64 a0_2, .int .i64 a0_3]) (t := 97) ?hr ?_; (case hd => rfl); (case hg => rfl); (case hr => first | (go_simp; done) | (go_simp; rfl)); intro gb146 hg w15 hbox hb; have n0_ := asd (below_step (by repeat (first | (with_reducible first | exact HB.out | apply wa | apply wn | apply wd) | exact HB.out)) hb); have n1_ := asd (hbox); have n2_ := asd ((by rw [hg]; exact (below_size (by repeat (first | (with_reducible first | exact HB.out | apply wa | apply wn | apply wd) | exact HB.out))) : w.heap.size ≤ gb146)); have n3_ := asd ((by rw [hg]; exact (below_size (by repeat (first | (with_reducible first | exact HB.out | apply wa | apply wn | apply wd) | exact HB.out))) : w.heap.size ≤ gb146)); clear HB; have HB := n0_; have BK146 := n1_; have GW146 := n2_; have GE146 := n3_; clear n0_ n1_ n2_ n3_; clear hb hbox hg) | ((with_reducible refine gate_dst (N := 3) rfl ?_); refine box_event ?hg (N := 3) ?hd (cs := #[.int .i64 a1_0, .int .i64 a1_1, .int .i64 a1_2, .int .i64 a1_3]) (t := 97) ?hr ?_; (case hd => rfl); (case hg => rfl); (case hr => first | (go_simp; done) | (go_simp; rfl)); intro gb147 hg w16 hbox hb; have n0_ := asd (blk_below (g := gb146) (o := .cells #[.int .i64 a0_0, .int .i64 a0_1, .int .i64 a0_2, .int .i64 a0_3] 97 (0, 0)) (by (with_reducible repeat first | apply bn | apply bd | apply ba); exact BK146.out) hb); have n1_ := asd (below_step (by repeat (first | (with_reducible first | exact HB.out | apply wa | apply wn | apply wd | refine ws ?_ GE146.out) | exact HB.out)) hb); have n2_ := asd (hbox); have n3_ := asd ((by rw [hg]; exact (below_size (by repeat (first | (with_reducible first | exact HB.out | apply wa | apply wn | apply wd | refine ws ?_ GE146.out) | exact HB.out))) : w.heap.size ≤ gb147)); have n4_ := asd ((by rw [hg]; exact (below_size (by repeat (first | (with_reducible first | exact HB.out | apply wa | apply wn | apply wd | refine ws ?_ GE146.out) | exact HB.out))) : w.heap.size ≤ gb147)); have n5_ := asd ((by rw [hg]; exact Nat.ne_of_lt (blk_lt (g := gb146) (o := .cells #[.int .i64 a0_0, .int .i64 a0_1, .int .i64 a0_2, .int .i64 a0_3] 97 (0, 0)) (by (with_reducible repeat first | apply bn | apply bd | apply ba); exact BK146.out)) : gb146 ≠ gb147)); have n6_ := asd ((by rw [hg]; exact Nat.ne_of_gt (blk_lt (g := gb146) (o := .cells #[.int .i64 a0_0, .int .i64 a0_1, .int .i64 a0_2, .int .i64 a0_3] 97 (0, 0)) (by (with_reducible repeat first | apply bn | apply bd | apply ba); exact BK146.out)) : gb147 ≠ gb146)); clear BK146; clear HB; have BK146 := n0_; have HB := n1_; have BK147 := n2_; have GW147 := n3_; have GE147 := n4_; have NB146_147 := n5_; have NB147_146 := n6_; clear n0_ n1_ n2_ n3_ n4_ n5_ n6_; clear hb hbox hg; have hnb17 := NB146_147.out; have hnc17 := NB147_146.out; have hcz18_0 : w16.cell? ⟨gb146, 0, none⟩ = some (.int .i64 a0_0) := (blk_cell BK146.out 0).trans rfl; have hcz18_1 : w16.cell? ⟨gb146, 1, none⟩ = some (.int .i64 a0_1) := (blk_cell BK146.out 1).trans rfl; have hcz18_2 : w16.cell? ⟨gb146, 2, none⟩ = some (.int .i64 a0_2) := (blk_cell BK146.out 2).trans rfl; have hcz18_3 : w16.cell? ⟨gb146, 3, none⟩ = some (.int .i64 a0_3) := (blk_cell BK146.out 3).trans rfl; have hfz18_0 := blk_frozen BK146.out 0; have hfz18_1 := blk_frozen BK146.out 1; have hfz18_2 := blk_frozen BK146.out 2; have hfz18_3 := blk_frozen BK146.out 3; have hcz19_0 : w16.cell? ⟨gb147, 0, none⟩ = some (.int .i64 a1_0) := (blk_cell BK147.out 0).trans rfl; have hcz19_1 : w16.cell? ⟨gb147, 1, none⟩ = some (.int .i64 a1_1) := (blk_cell BK147.out 1).trans rfl; have hcz19_2 : w16.cell? ⟨gb147, 2, none⟩ = some (.int .i64 a1_2) := (blk_cell BK147.out 2).trans rfl; have hcz19_3 : w16.cell? ⟨gb147, 3, none⟩ = some (.int .i64 a1_3) := (blk_cell BK147.out 3).trans rfl; have hfz19_0 := blk_frozen BK147.out 0; have hfz19_1 := blk_frozen BK147.out 1; have hfz19_2 := blk_frozen BK147.out 2; have hfz19_3 := blk_frozen BK147.out 3))
  go_ret
  exact ⟨by first | rfl | (simp [*] <;> rfl), by repeat (first | (with_reducible first | exact HB.out | apply wa | apply wn | apply wd | refine ws ?_ GE146.out | refine ws ?_ GE147.out) | exact HB.out)⟩
end Go.Proofs.Ytalimpniimgheaa.Fn
namespace Go.Proofs.Ytalimpniimgheaa.Fn
open Go.RowKit Go.Proofs.YtalimpniimgheaaW.PrintWords Go.Proofs.YtalimpniimgheaaW.PrintLast Go.Proofs.YtalimpniimgheaaW.PrintMore
attribute [local go_sem] max2_int min2_int max_two min_two max_three min_three max_four min_four
set_option linter.unusedVariables false
set_option linter.unusedSimpArgs false
def gantt_Bars.l0 : Nat → List (S97) → List (S97) → Int → Int → Option ((List (S97)))
 | 0, _, _, _, _ => none
 | k + 1, x3, x8, x9, x10 => if x10 < x9 then (if 0 ≤ x10 then (if x10 < (x8.length : Int) then (if (x3.length : Int) > 0 then (if 0 ≤ (wrap64 ((x3.length : Int) - 1)) then (if (wrap64 ((x3.length : Int) - 1)) < (x3.length : Int) then ((gantt_Bar_grows.f ((rd_T97 x3 (wrap64 ((x3.length : Int) - 1))).f0) ((rd_T97 x3 (wrap64 ((x3.length : Int) - 1))).f1) ((rd_T97 x3 (wrap64 ((x3.length : Int) - 1))).f2) ((rd_T97 x3 (wrap64 ((x3.length : Int) - 1))).f3) ((rd_T97 x8 x10).f0) ((rd_T97 x8 x10).f1) ((rd_T97 x8 x10).f2) ((rd_T97 x8 x10).f3)).bind fun t154 => (if t154 = true then (gantt_Bars.l0 k (x3.set ((wrap64 ((x3.length : Int) - 1)) : Int).toNat (⟨(rd_T97 x3 (wrap64 ((x3.length : Int) - 1))).f0, (rd_T97 x8 x10).f1, (rd_T97 x3 (wrap64 ((x3.length : Int) - 1))).f2, (rd_T97 x3 (wrap64 ((x3.length : Int) - 1))).f3⟩ : S97)) x8 x9 (wrap64 (x10 + 1))) else (if x3.length < 4398046511104 then (gantt_Bars.l0 k (x3 ++ [(⟨(rd_T97 x8 x10).f0, (rd_T97 x8 x10).f1, (rd_T97 x8 x10).f2, (rd_T97 x8 x10).f3⟩ : S97)]) x8 x9 (wrap64 (x10 + 1))) else (none)))) else (none)) else (none)) else (if x3.length < 4398046511104 then (gantt_Bars.l0 k (x3 ++ [(⟨(rd_T97 x8 x10).f0, (rd_T97 x8 x10).f1, (rd_T97 x8 x10).f2, (rd_T97 x8 x10).f3⟩ : S97)]) x8 x9 (wrap64 (x10 + 1))) else (none))) else (none)) else (none)) else (some x3)
def gantt_Bars.f (k : Nat) (l0 : List (S65)) : Option ((List (S97))) := (gantt_rans.f k l0).bind fun t148 => (gantt_Bars.l0 k ([] : List (S97)) t148 (t148.length : Int) 0)
def gantt_Bars.T6 : Bool × List (List Nat × List Nat) := (true, [([], []), ([0], [0]), ([1], [1]), ([2], [2]), ([2], [2]), ([4, 2], [2, 4]), ([3, 5, 2], [2, 3, 5]), ([6, 2], [2, 6]), ([2], [2]), ([7, 8, 2, 2], [2, 7, 8]), ([2, 9], [2, 9])])
def gantt_Bars.B6 : List Nat := [0, 1, 3, 7, 7, 23, 63, 127, 7, 511, 1023]
theorem gantt_Bars.tab6 : rtab .any (opsOf Try.f29 6) = gantt_Bars.T6 := by kernel_rfl
theorem gantt_Bars.bits6 : waitsOk gantt_Bars.T6.2 gantt_Bars.B6 = true := by kernel_rfl
set_option maxHeartbeats 8000000 in
set_option maxRecDepth 100000 in
theorem gantt_Bars.calls (k : Nat) (A0 : Option Addr) (c0 : Nat) (l0 : List (S65)) (r : List (S97)) (w : World) (hr0 : Kd.C k65 w A0 l0.length l0) (hc0 : l0.length ≤ c0) (h : gantt_Bars.f k l0 = some r) :
  Calls Try.prog 29 #[.slice A0 l0.length c0] w fun e w' => ∃ v0_ : Value, e = .returned (v0_) ∧ Kd.R k97 97 w' w.heap.size (fun _ => True) v0_ r ∧ Below w.heap.size w w' := by
 have hu97 := Try.underlying97
 have HR0 := asd hr0
 have HC0 := asd hc0
 clear hr0 hc0
 have HB := asd (Below.refl w.heap.size w)
 have H : ((gantt_rans.f k l0).bind fun t148 => (gantt_Bars.l0 k ([] : List (S97)) t148 (t148.length : Int) 0)) = some r := h
 clear h
 replace H := Option.bind_eq_some_iff.mp H
 obtain ⟨t148, A20, H⟩ := H
 replace H : (gantt_Bars.l0 k ([] : List (S97)) t148 (t148.length : Int) 0) = some r := H
 have A2 := asd A20
 clear A20
 have H' := asd H
 clear H
 go_enter Try.func29, Try.ntmps29
 go_wp2_with (first | ((with_reducible refine gate_callee (f := 72) rfl ?_); refine goesL_ (some 8) rfl rfl Try.func72 (by kernel_rfl) rfl #[.slice A0 l0.length c0] rfl (by (try simp only [List.map_toArray, List.map_cons, List.map_nil]); first | done | rfl | (simp only [List.length_drop, List.length_take]; rfl)) ?_; (with_reducible refine (gantt_rans.calls k _ _ l0 t148 _ ?side1 ?side2 A2.out).mono ?_); (case side1 => repeat (first | exact HR0.out | (with_reducible refine Kd.C_alloc ?_ _) | (with_reducible refine Kd.C_drewN ?_ _) | (with_reducible refine Kd.C_drew ?_))); (case side2 => exact HC0.out); rintro e w3 ⟨v149, rfl, ho0, hb⟩; refine ⟨_, rfl, ?_⟩; have n0_ := asd (Kd.R_lower ho0 (below_size (by repeat (first | (with_reducible first | exact HB.out | apply wa | apply wn | apply wd) | exact HB.out)))); have n1_ := asd (below_step (by repeat (first | (with_reducible first | exact HB.out | apply wa | apply wn | apply wd) | exact HB.out)) hb); clear HB; have HO150 := n0_; have HB := n1_; clear n0_ n1_; (try clear hb); (try clear hb2); (try clear hk); (try clear hi); (try clear ho0); obtain ⟨Ao4, co4, eo4⟩ := Kd.R_slice HO150.out; subst eo4))
 go_loopg [3, 10] k (fun kq v3 v10 w' => ∃ (x3_1 : List (S97)) (x8_1 : List (S97)) (x10_1 : Int), v10 = .int .i64 x10_1 ∧ Aside0 (gantt_Bars.l0 kq x3_1 x8_1 (t148.length : Int) x10_1 = some r) ∧ Aside0 (kq ≤ k) ∧ Aside0 (Kd.R k97 97 w' w.heap.size (fun k_ => some k_ ≠ ((.slice Ao4 t148.length co4) : Value).ownBlock) v3 x3_1) ∧ Aside0 (Kd.R k97 97 w' w.heap.size (fun k_ => some k_ ≠ (v3 : Value).ownBlock) (.slice Ao4 t148.length co4) x8_1) ∧ Aside0 (Below w.heap.size w w'))
 case atStart => exact ⟨(([] : List (S97))), (t148), (0), (by first | rfl | (simp; done) | (simp [*]; done)), H', ⟨Nat.le_refl _⟩, ⟨by first | exact Kd.R_nil _ _ _ _ _ | exact Kd.N_nil _ _ _ _ _ | exact Kd.V_nil _ _ _ _ _ | exact Kd.Q_nil _ _ _ _ _ | exact Kd.S_nil _ _ _ _ _⟩, ⟨by (with_reducible repeat (first | apply Kd.R_alloc | apply Kd.R_drewN | apply Kd.R_drew)); exact Kd.R_mono HO150.out (fun _ hk => (by simp [Value.ownBlock]))⟩, ⟨by repeat (first | (with_reducible first | exact HB.out | apply wa | apply wn | apply wd) | exact HB.out)⟩⟩
 case round =>
  clear H'
  try clear c2
  try clear p2
  obtain ⟨x3_1, x8_1, x10_1, rfl, HA, HK1, HO_3, HO_8, HB⟩ := hrel
  have hl8_1 := (Kd.R_reads' HO_8.out).1
  rw [hl8_1] at HO_8
  (try simp only [hl8_1])
  (try simp only [hl8_1] at HO_3)
  cases gk with
  | zero => exact absurd HA.out (by simp [gantt_Bars.l0])
  | succ k1 =>
   have H := HA.out
   clear HA
   simp only [gantt_Bars.l0] at H
   by_cases c5 : x10_1 < (t148.length : Int)
   ·rw [if_pos c5] at H
    have c5b0 : decide (x10_1 < (t148.length : Int)) = true := decide_eq_true c5
    clear c5
    by_cases c6 : 0 ≤ x10_1
    ·rw [if_pos c6] at H
     have c6b0 : decide (0 ≤ x10_1) = true := decide_eq_true c6
     clear c6
     by_cases c7 : x10_1 < (x8_1.length : Int)
     ·rw [if_pos c7] at H
      have c7b0 : decide (x10_1 < (x8_1.length : Int)) = true := decide_eq_true c7
      clear c7
      by_cases c8 : (x3_1.length : Int) > 0
      ·rw [if_pos c8] at H
       have c8b0 : decide (0 < (x3_1.length : Int)) = true := decide_eq_true c8
       have c8b1 : decide (0 < x3_1.length) = true := decide_eq_true (by omega)
       clear c8
       obtain ⟨ji9, hji9⟩ : ∃ j_ : Int, (wrap64 ((x3_1.length : Int) - 1)) = j_ := ⟨_, rfl⟩
       replace H : (if 0 ≤ (ji9) then (if (ji9) < (x3_1.length : Int) then ((gantt_Bar_grows.f ((rd_T97 x3_1 (ji9)).f0) ((rd_T97 x3_1 (ji9)).f1) ((rd_T97 x3_1 (ji9)).f2) ((rd_T97 x3_1 (ji9)).f3) ((rd_T97 x8_1 x10_1).f0) ((rd_T97 x8_1 x10_1).f1) ((rd_T97 x8_1 x10_1).f2) ((rd_T97 x8_1 x10_1).f3)).bind fun t154 => (if t154 = true then (gantt_Bars.l0 k1 (x3_1.set ((ji9) : Int).toNat (⟨(rd_T97 x3_1 (ji9)).f0, (rd_T97 x8_1 x10_1).f1, (rd_T97 x3_1 (ji9)).f2, (rd_T97 x3_1 (ji9)).f3⟩ : S97)) x8_1 (t148.length : Int) (wrap64 (x10_1 + 1))) else (if x3_1.length < 4398046511104 then (gantt_Bars.l0 k1 (x3_1 ++ [(⟨(rd_T97 x8_1 x10_1).f0, (rd_T97 x8_1 x10_1).f1, (rd_T97 x8_1 x10_1).f2, (rd_T97 x8_1 x10_1).f3⟩ : S97)]) x8_1 (t148.length : Int) (wrap64 (x10_1 + 1))) else (none)))) else (none)) else (none)) = some r := by first | (rw [hji9] at H; exact H) | (simp only [hji9] at H ⊢; exact H)
       have hji9w : (IntKind.i64.wrap ((x3_1.length : Int) - 1)) = ji9 := (i64_w _).trans hji9
       by_cases c10 : 0 ≤ (ji9)
       ·rw [if_pos c10] at H
        have c10b0 : decide (0 ≤ (ji9)) = true := decide_eq_true c10
        clear c10
        by_cases c11 : (ji9) < (x3_1.length : Int)
        ·rw [if_pos c11] at H
         have c11b0 : decide ((ji9) < (x3_1.length : Int)) = true := decide_eq_true c11
         clear c11
         replace H := Option.bind_eq_some_iff.mp H
         obtain ⟨t154, A120, H⟩ := H
         replace H : (if t154 = true then (gantt_Bars.l0 k1 (x3_1.set ((ji9) : Int).toNat (⟨(rd_T97 x3_1 (ji9)).f0, (rd_T97 x8_1 x10_1).f1, (rd_T97 x3_1 (ji9)).f2, (rd_T97 x3_1 (ji9)).f3⟩ : S97)) x8_1 (t148.length : Int) (wrap64 (x10_1 + 1))) else (if x3_1.length < 4398046511104 then (gantt_Bars.l0 k1 (x3_1 ++ [(⟨(rd_T97 x8_1 x10_1).f0, (rd_T97 x8_1 x10_1).f1, (rd_T97 x8_1 x10_1).f2, (rd_T97 x8_1 x10_1).f3⟩ : S97)]) x8_1 (t148.length : Int) (wrap64 (x10_1 + 1))) else (none))) = some r := H
         have A12 := asd A120
         clear A120
         by_cases c13 : t154 = true
         ·subst c13
          have H1 : (gantt_Bars.l0 k1 (x3_1.set ((ji9) : Int).toNat (⟨(rd_T97 x3_1 (ji9)).f0, (rd_T97 x8_1 x10_1).f1, (rd_T97 x3_1 (ji9)).f2, (rd_T97 x3_1 (ji9)).f3⟩ : S97)) x8_1 (t148.length : Int) (wrap64 (x10_1 + 1))) = some r := by rw [if_pos rfl] at H; exact H
          clear H
          have H := H1
          clear H1
          obtain ⟨y155, hy155⟩ : ∃ y_ : List (S97), y_ = (x3_1.set ((ji9) : Int).toNat (⟨(rd_T97 x3_1 (ji9)).f0, (rd_T97 x8_1 x10_1).f1, (rd_T97 x3_1 (ji9)).f2, (rd_T97 x3_1 (ji9)).f3⟩ : S97)) := ⟨_, rfl⟩
          replace H : (gantt_Bars.l0 k1 y155 x8_1 (t148.length : Int) (wrap64 (x10_1 + 1))) = some r := by first | (rw [hy155]; with_reducible exact H) | (have H2_ := (Option.bind_some _ _).symm.trans H; rw [hy155]; with_reducible exact H2_) | (have H2_ := (Option.bind_some _ _).symm.trans H; with_reducible exact H2_) | with_reducible exact H | (rw [hy155]; exact H) | exact H
          have Ny155 := asd hy155
          clear hy155
          have H' := asd H
          clear H
          have p151 : 0 ≤ (x10_1 : Int) := of_decide_eq_true (by assumption)
          have q151 : x10_1 < (x8_1.length : Int) := of_decide_eq_true (by assumption)
          obtain ⟨ad151, e151, hx151_0, hx151_1, hx151_2, hx151_3⟩ := at_T97 (Kd.R_reads' HO_8.out).2.2 x10_1 p151 q151
          cases e151
          replace p151 := eq_true p151
          replace q151 := eq_true q151
          try go_wp2_with (first | ((with_reducible refine gate_dst (N := 5) rfl ?_); refine box_event ?hg (N := 5) ?hd (cs := #[.int .i64 0, .int .i64 0, .int .i64 0, .int .i64 0]) (t := 97) ?hr ?_; (case hd => rfl); (case hg => rfl); (case hr => first | (go_simp; done) | (go_simp; rfl)); intro gb152 hg w15 hbox hb; have n0_ := asd (Kd.R_below (Kd.R_elderB (by (with_reducible repeat (first | apply Kd.R_alloc | apply Kd.R_drewN | apply Kd.R_drew)); exact HO_3.out) gb152 (Nat.le_of_eq hg.symm)) hb); have n1_ := asd (Kd.R_below (Kd.R_elderB (by (with_reducible repeat (first | apply Kd.R_alloc | apply Kd.R_drewN | apply Kd.R_drew)); exact HO_8.out) gb152 (Nat.le_of_eq hg.symm)) hb); have n2_ := asd (below_step (by repeat (first | (with_reducible first | exact HB.out | apply wa | apply wn | apply wd) | exact HB.out)) hb); have n3_ := asd (hbox); have n4_ := asd ((by rw [hg]; exact (below_size (by repeat (first | (with_reducible first | exact HB.out | apply wa | apply wn | apply wd) | exact HB.out))) : w.heap.size ≤ gb152)); have n5_ := asd ((by rw [hg]; exact (below_size (by repeat (first | (with_reducible first | exact HB.out | apply wa | apply wn | apply wd) | exact HB.out))) : w.heap.size ≤ gb152)); clear HO_3; clear HO_8; clear HB; have HO_3 := n0_; have HO_8 := n1_; have HB := n2_; have BK152 := n3_; have GW152 := n4_; have GE152 := n5_; clear n0_ n1_ n2_ n3_ n4_ n5_; clear hb hbox hg; have hcz16_0 : w15.cell? ⟨gb152, 0, none⟩ = some (.int .i64 0) := (blk_cell BK152.out 0).trans rfl; have hcz16_1 : w15.cell? ⟨gb152, 1, none⟩ = some (.int .i64 0) := (blk_cell BK152.out 1).trans rfl; have hcz16_2 : w15.cell? ⟨gb152, 2, none⟩ = some (.int .i64 0) := (blk_cell BK152.out 2).trans rfl; have hcz16_3 : w15.cell? ⟨gb152, 3, none⟩ = some (.int .i64 0) := (blk_cell BK152.out 3).trans rfl; have hfz16_0 := blk_frozen BK152.out 0; have hfz16_1 := blk_frozen BK152.out 1; have hfz16_2 := blk_frozen BK152.out 2; have hfz16_3 := blk_frozen BK152.out 3; obtain ⟨Ao17, co17, eo17⟩ := Kd.R_slice HO_3.out; subst eo17))
          have n0_ : Aside0 (Kd.R k97 97 ((((w15.setCell ⟨gb152, 0, none⟩ (.int .i64 ((rd_T97 x8_1 x10_1).f0))).setCell ⟨gb152, 1, none⟩ (.int .i64 ((rd_T97 x8_1 x10_1).f1))).setCell ⟨gb152, 2, none⟩ (.int .i64 ((rd_T97 x8_1 x10_1).f2))).setCell ⟨gb152, 3, none⟩ (.int .i64 ((rd_T97 x8_1 x10_1).f3))) w.heap.size (fun k_ => some k_ ≠ (.slice (some ad151) x8_1.length co4 : Value).ownBlock ∧ k_ ≠ gb152) (.slice Ao17 x3_1.length co17) x3_1) := ⟨by (with_reducible repeat (first | apply Kd.R_alloc | apply Kd.R_drewN | apply Kd.R_drew)); exact Kd.R_mono (Kd.R_far (p := ⟨gb152, 3, none⟩) (Kd.R_far (p := ⟨gb152, 2, none⟩) (Kd.R_far (p := ⟨gb152, 1, none⟩) (Kd.R_far (p := ⟨gb152, 0, none⟩) (Kd.R_mono HO_3.out (fun k_ hk => (⟨hk, hk.2⟩ : _ ∧ k_ ≠ gb152))) (fun _ hk => hk.2) (.int .i64 ((rd_T97 x8_1 x10_1).f0))) (fun _ hk => hk.2) (.int .i64 ((rd_T97 x8_1 x10_1).f1))) (fun _ hk => hk.2) (.int .i64 ((rd_T97 x8_1 x10_1).f2))) (fun _ hk => hk.2) (.int .i64 ((rd_T97 x8_1 x10_1).f3))) (fun _ hk => ⟨hk.1.1, hk.1.2⟩)⟩
          have n1_ : Aside0 (Kd.R k97 97 ((((w15.setCell ⟨gb152, 0, none⟩ (.int .i64 ((rd_T97 x8_1 x10_1).f0))).setCell ⟨gb152, 1, none⟩ (.int .i64 ((rd_T97 x8_1 x10_1).f1))).setCell ⟨gb152, 2, none⟩ (.int .i64 ((rd_T97 x8_1 x10_1).f2))).setCell ⟨gb152, 3, none⟩ (.int .i64 ((rd_T97 x8_1 x10_1).f3))) w.heap.size (fun k_ => some k_ ≠ (.slice Ao17 x3_1.length co17 : Value).ownBlock ∧ k_ ≠ gb152) (.slice (some ad151) x8_1.length co4) x8_1) := ⟨by (with_reducible repeat (first | apply Kd.R_alloc | apply Kd.R_drewN | apply Kd.R_drew)); exact Kd.R_mono (Kd.R_far (p := ⟨gb152, 3, none⟩) (Kd.R_far (p := ⟨gb152, 2, none⟩) (Kd.R_far (p := ⟨gb152, 1, none⟩) (Kd.R_far (p := ⟨gb152, 0, none⟩) (Kd.R_mono HO_8.out (fun k_ hk => (⟨hk, hk.2⟩ : _ ∧ k_ ≠ gb152))) (fun _ hk => hk.2) (.int .i64 ((rd_T97 x8_1 x10_1).f0))) (fun _ hk => hk.2) (.int .i64 ((rd_T97 x8_1 x10_1).f1))) (fun _ hk => hk.2) (.int .i64 ((rd_T97 x8_1 x10_1).f2))) (fun _ hk => hk.2) (.int .i64 ((rd_T97 x8_1 x10_1).f3))) (fun _ hk => ⟨hk.1.1, hk.1.2⟩)⟩
          have n2_ : Aside0 (((((w15.setCell ⟨gb152, 0, none⟩ (.int .i64 ((rd_T97 x8_1 x10_1).f0))).setCell ⟨gb152, 1, none⟩ (.int .i64 ((rd_T97 x8_1 x10_1).f1))).setCell ⟨gb152, 2, none⟩ (.int .i64 ((rd_T97 x8_1 x10_1).f2))).setCell ⟨gb152, 3, none⟩ (.int .i64 ((rd_T97 x8_1 x10_1).f3))).heap[gb152]? = some (.cells #[.int .i64 ((rd_T97 x8_1 x10_1).f0), .int .i64 ((rd_T97 x8_1 x10_1).f1), .int .i64 ((rd_T97 x8_1 x10_1).f2), .int .i64 ((rd_T97 x8_1 x10_1).f3)] 97 (0, 0))) := ⟨by (with_reducible repeat first | apply bn | apply bd | apply ba); refine blk_put (cs := #[.int .i64 ((rd_T97 x8_1 x10_1).f0), .int .i64 ((rd_T97 x8_1 x10_1).f1), .int .i64 ((rd_T97 x8_1 x10_1).f2), .int .i64 0]) ?_ 3 _ rfl; (with_reducible repeat first | apply bn | apply bd | apply ba); refine blk_put (cs := #[.int .i64 ((rd_T97 x8_1 x10_1).f0), .int .i64 ((rd_T97 x8_1 x10_1).f1), .int .i64 0, .int .i64 0]) ?_ 2 _ rfl; (with_reducible repeat first | apply bn | apply bd | apply ba); refine blk_put (cs := #[.int .i64 ((rd_T97 x8_1 x10_1).f0), .int .i64 0, .int .i64 0, .int .i64 0]) ?_ 1 _ rfl; (with_reducible repeat first | apply bn | apply bd | apply ba); refine blk_put (cs := #[.int .i64 0, .int .i64 0, .int .i64 0, .int .i64 0]) ?_ 0 _ rfl; (with_reducible repeat first | apply bn | apply bd | apply ba); exact BK152.out⟩
          have n3_ : Aside0 (Below w.heap.size w ((((w15.setCell ⟨gb152, 0, none⟩ (.int .i64 ((rd_T97 x8_1 x10_1).f0))).setCell ⟨gb152, 1, none⟩ (.int .i64 ((rd_T97 x8_1 x10_1).f1))).setCell ⟨gb152, 2, none⟩ (.int .i64 ((rd_T97 x8_1 x10_1).f2))).setCell ⟨gb152, 3, none⟩ (.int .i64 ((rd_T97 x8_1 x10_1).f3)))) := ⟨by repeat (first | (with_reducible first | exact HB.out | apply wa | apply wn | apply wd | refine ws ?_ GE152.out) | exact HB.out)⟩
          (try clear HO_3)
          (try clear HO_8)
          (try clear BK152)
          (try clear HB)
          generalize ((((w15.setCell ⟨gb152, 0, none⟩ (.int .i64 ((rd_T97 x8_1 x10_1).f0))).setCell ⟨gb152, 1, none⟩ (.int .i64 ((rd_T97 x8_1 x10_1).f1))).setCell ⟨gb152, 2, none⟩ (.int .i64 ((rd_T97 x8_1 x10_1).f2))).setCell ⟨gb152, 3, none⟩ (.int .i64 ((rd_T97 x8_1 x10_1).f3))) = w18 at n0_ n1_ n2_ n3_ ⊢
          have HO_3 := n0_
          have HO_8 := n1_
          have BK152 := n2_
          have HB := n3_
          clear n0_ n1_ n2_ n3_
          have n0_ := asd (Kd.R_drew HO_3.out)
          have n1_ := asd (Kd.R_drew HO_8.out)
          have n2_ := asd (blk_drew BK152.out)
          have n3_ := asd (below_drew1 HB.out)
          clear HO_3
          clear HO_8
          clear BK152
          clear HB
          have HO_3 := n0_
          have HO_8 := n1_
          have BK152 := n2_
          have HB := n3_
          clear n0_ n1_ n2_ n3_
          have p153 : 0 ≤ ((ji9) : Int) := of_decide_eq_true (by assumption)
          have q153 : (ji9) < (x3_1.length : Int) := of_decide_eq_true (by assumption)
          obtain ⟨ad153, e153, hx153_0, hx153_1, hx153_2, hx153_3⟩ := at_T97 (Kd.R_reads' HO_3.out).2.2 (ji9) p153 q153
          cases e153
          replace p153 := eq_true p153
          replace q153 := eq_true q153
          refine start_ (n := 11) (S := fun w' => w'.cell? ⟨gb152, 0, none⟩ = some (.int .i64 ((rd_T97 x8_1 x10_1).f0)) ∧ w'.cell? ⟨gb152, 1, none⟩ = some (.int .i64 ((rd_T97 x8_1 x10_1).f1)) ∧ w'.cell? ⟨gb152, 2, none⟩ = some (.int .i64 ((rd_T97 x8_1 x10_1).f2)) ∧ w'.cell? ⟨gb152, 3, none⟩ = some (.int .i64 ((rd_T97 x8_1 x10_1).f3)) ∧ w'.cell? (ad153.add (((ji9)).toNat * 4)) = some (.int .i64 ((rd_T97 x3_1 (ji9)).f0)) ∧ w'.cell? ⟨(ad153.add (((ji9)).toNat * 4)).block, (ad153.add (((ji9)).toNat * 4)).off + 1, none⟩ = some (.int .i64 ((rd_T97 x3_1 (ji9)).f1)) ∧ w'.cell? ⟨(ad153.add (((ji9)).toNat * 4)).block, (ad153.add (((ji9)).toNat * 4)).off + 2, none⟩ = some (.int .i64 ((rd_T97 x3_1 (ji9)).f2)) ∧ w'.cell? ⟨(ad153.add (((ji9)).toNat * 4)).block, (ad153.add (((ji9)).toNat * 4)).off + 3, none⟩ = some (.int .i64 ((rd_T97 x3_1 (ji9)).f3))) (ds := []) #[false, false, false, false, false, false, false, false, false, false, false] (by kernel_rfl) rfl rfl ⟨(blk_cell BK152.out 0).trans rfl, (blk_cell BK152.out 1).trans rfl, (blk_cell BK152.out 2).trans rfl, (blk_cell BK152.out 3).trans rfl, hx153_0, hx153_1, hx153_2, hx153_3⟩ (fun hHeld => ?_); refine with_tabW gantt_Bars.tab6 gantt_Bars.bits6 (fun HT_ HW_ => ?_)
          generalize w18.drew = w19 at HO_3 HO_8 BK152 HB hx153_0 hx153_1 hx153_2 hx153_3 hHeld ⊢
          refine pure_ (i := 0) (N := some 16) (v := ?_) (a' := ?_) #[true, false, false, false, false, false, false, false, false, false, false] rfl rfl (any_of HT_.out (by kernel_rfl)) (fun _ _ _ h => h) (Or.inl ⟨by rfl, ?_⟩) ?_ ?_
          rotate_left
          ·intro w'
           go_simp
           with_reducible rfl
          rotate_left
          ·simp only [Act.put, sB, i64_w, i32_w]
           rfl
          refine pure_ (i := 1) (N := some 17) (v := ?_) (a' := ?_) #[true, true, false, false, false, false, false, false, false, false, false] rfl rfl (any_of HT_.out (by kernel_rfl)) (fun _ _ _ h => h) (Or.inl ⟨by rfl, ?_⟩) ?_ ?_
          rotate_left
          ·intro w'
           go_simp
           with_reducible rfl
          rotate_left
          ·simp only [Act.put, sB, i64_w, i32_w]
           rfl
          refine pure_ (i := 2) (N := some 18) (v := ?_) (a' := ?_) #[true, true, true, false, false, false, false, false, false, false, false] rfl rfl (any_of HT_.out (by kernel_rfl)) (fun _ _ _ h => h) (Or.inl ⟨by rfl, ?_⟩) ?_ ?_
          rotate_left
          ·intro w'
           go_simp
           with_reducible rfl
          rotate_left
          ·simp only [Act.put, sB, i64_w, i32_w]
           rfl
          refine pure_ (i := 3) (N := some 19) (v := ?_) (a' := ?_) #[true, true, true, true, false, false, false, false, false, false, false] rfl rfl (any_of HT_.out (by kernel_rfl)) (fun _ _ _ h => h) (Or.inl ⟨by rfl, ?_⟩) ?_ ?_
          rotate_left
          ·intro w'
           go_simp
           with_reducible rfl
          rotate_left
          ·simp only [Act.put, sB, i64_w, i32_w]
           rfl
          refine pure_ (i := 4) (N := some 20) (v := ?_) (a' := ?_) #[true, true, true, true, true, false, false, false, false, false, false] rfl rfl (any_of HT_.out (by kernel_rfl)) (fun _ _ _ h => h) (Or.inl ⟨by rfl, ?_⟩) ?_ ?_
          rotate_left
          ·intro w'
           go_simp
           with_reducible rfl
          rotate_left
          ·simp only [Act.put, sB, i64_w, i32_w]
           rfl
          refine pure_ (i := 5) (N := some 21) (v := ?_) (a' := ?_) #[true, true, true, true, true, true, false, false, false, false, false] rfl rfl (any_of HT_.out (by kernel_rfl)) (fun _ _ _ h => h) (Or.inl ⟨by rfl, ?_⟩) ?_ ?_
          rotate_left
          ·intro w'
           go_simp
           with_reducible rfl
          rotate_left
          ·simp only [Act.put, sB, i64_w, i32_w]
           rfl
          refine pure_ (i := 6) (N := some 22) (v := ?_) (a' := ?_) #[true, true, true, true, true, true, true, false, false, false, false] rfl rfl (any_of HT_.out (by kernel_rfl)) (fun _ _ _ h => h) (Or.inl ⟨by rfl, ?_⟩) ?_ ?_
          rotate_left
          ·intro w'
           go_simp
           with_reducible rfl
          rotate_left
          ·simp only [Act.put, sB, i64_w, i32_w]
           rfl
          refine take_ (i := 7) (N := some 23) (v := ?_) (a' := ?_) #[true, true, true, true, true, true, true, true, false, false, false] rfl rfl (take_ofW HT_.out HW_.out (by kernel_rfl)) (fun _ _ _ h => h) (Or.inl ⟨by rfl, ?_⟩) hHeld ?_ ?_
          rotate_left
          ·rintro w' ⟨s0, s1, s2, s3, s4, s5, s6, s7⟩
           go_simp
           with_reducible rfl
          rotate_left
          ·simp only [Act.put, sB, i64_w, i32_w]
           rfl
          refine take_ (i := 8) (N := some 24) (v := ?_) (a' := ?_) #[true, true, true, true, true, true, true, true, true, false, false] rfl rfl (take_ofW HT_.out HW_.out (by kernel_rfl)) (fun _ _ _ h => h) (Or.inl ⟨by rfl, ?_⟩) hHeld ?_ ?_
          rotate_left
          ·rintro w' ⟨s0, s1, s2, s3, s4, s5, s6, s7⟩
           go_simp
           with_reducible rfl
          rotate_left
          ·simp only [Act.put, sB, i64_w, i32_w]
           rfl
          refine one_ (i := 9) (N := some 25) #[true, true, true, true, true, true, true, true, true, true, false] rfl rfl (one_of HT_.out (by kernel_rfl)) (by decide) (fun K hK => ?_)
          refine goes_ Try.func73 (by kernel_rfl) rfl #[.agg #[.int .i64 ((rd_T97 x3_1 (ji9)).f0), .int .i64 ((rd_T97 x3_1 (ji9)).f1), .int .i64 ((rd_T97 x3_1 (ji9)).f2), .int .i64 ((rd_T97 x3_1 (ji9)).f3)], .agg #[.int .i64 ((rd_T97 x8_1 x10_1).f0), .int .i64 ((rd_T97 x8_1 x10_1).f1), .int .i64 ((rd_T97 x8_1 x10_1).f2), .int .i64 ((rd_T97 x8_1 x10_1).f3)]] (by rfl) rfl rfl (by (try simp only [List.map_toArray, List.map_cons, List.map_nil]); first | done | (simp only [hji9]; rfl) | rfl | (simp only [List.length_drop, List.length_take]; rfl)) ?_
          with_reducible refine (gantt_Bar_grows.calls ((rd_T97 x3_1 (ji9)).f0) ((rd_T97 x3_1 (ji9)).f1) ((rd_T97 x3_1 (ji9)).f2) ((rd_T97 x3_1 (ji9)).f3) ((rd_T97 x8_1 x10_1).f0) ((rd_T97 x8_1 x10_1).f1) ((rd_T97 x8_1 x10_1).f2) ((rd_T97 x8_1 x10_1).f3) true _ A12.out).mono ?_
          rintro e w20 ⟨rfl, hb⟩
          have HS4_ := (hb.cell (World.block_lt_of_cell? _ _ (hHeld.2.2.2.2.1))).trans (hHeld.2.2.2.2.1)
          have HS5_ := (hb.cell (World.block_lt_of_cell? _ _ (hHeld.2.2.2.2.2.1))).trans (hHeld.2.2.2.2.2.1)
          have HS6_ := (hb.cell (World.block_lt_of_cell? _ _ (hHeld.2.2.2.2.2.2.1))).trans (hHeld.2.2.2.2.2.2.1)
          have HS7_ := (hb.cell (World.block_lt_of_cell? _ _ (hHeld.2.2.2.2.2.2.2))).trans (hHeld.2.2.2.2.2.2.2)
          refine ⟨_, rfl, ?_⟩
          have n0_ := asd (Kd.R_below (by (with_reducible repeat (first | apply Kd.R_alloc | apply Kd.R_drewN | apply Kd.R_drew)); exact HO_3.out) hb)
          have n1_ := asd (Kd.R_below (by (with_reducible repeat (first | apply Kd.R_alloc | apply Kd.R_drewN | apply Kd.R_drew)); exact HO_8.out) hb)
          have n2_ := asd (blk_below (g := gb152) (o := .cells #[.int .i64 ((rd_T97 x8_1 x10_1).f0), .int .i64 ((rd_T97 x8_1 x10_1).f1), .int .i64 ((rd_T97 x8_1 x10_1).f2), .int .i64 ((rd_T97 x8_1 x10_1).f3)] 97 (0, 0)) (by (with_reducible repeat first | apply bn | apply bd | apply ba); exact BK152.out) hb)
          have n3_ := asd (below_step (by repeat (first | (with_reducible first | exact HB.out | apply wa | apply wn | apply wd | refine ws ?_ GE152.out) | exact HB.out)) hb)
          clear HO_3
          clear HO_8
          clear BK152
          clear HB
          have HO_3 := n0_
          have HO_8 := n1_
          have BK152 := n2_
          have HB := n3_
          clear n0_ n1_ n2_ n3_
          (try clear hb)
          (try clear hb2)
          (try clear hk)
          (try clear hi)
          refine hK.out _ _ ⟨(blk_cell BK152.out 0).trans rfl, (blk_cell BK152.out 1).trans rfl, (blk_cell BK152.out 2).trans rfl, (blk_cell BK152.out 3).trans rfl, HS4_, HS5_, HS6_, HS7_⟩ (fun hHeld => ?_)
          clear hK K
          refine norm_ (a' := ?_) ?_ ?_
          rotate_left
          ·show Act.put _ (some 25) _ = _
           simp only [Act.put, sB, i64_w, i32_w]
           rfl
          refine pure_ (i := 10) (N := some 26) (v := ?_) (a' := ?_) #[true, true, true, true, true, true, true, true, true, true, true] rfl rfl (any_of HT_.out (by kernel_rfl)) (fun _ _ _ h => h) (Or.inl ⟨by rfl, ?_⟩) ?_ ?_
          rotate_left
          ·intro w'
           go_simp
           with_reducible rfl
          rotate_left
          ·simp only [Act.put, sB, i64_w, i32_w]
           rfl
          refine done_ (done_of HT_.out (by kernel_rfl)) ?_
          have hcz21_0 : w20.cell? ⟨gb152, 0, none⟩ = some (.int .i64 ((rd_T97 x8_1 x10_1).f0)) := (blk_cell BK152.out 0).trans rfl
          have hcz21_1 : w20.cell? ⟨gb152, 1, none⟩ = some (.int .i64 ((rd_T97 x8_1 x10_1).f1)) := (blk_cell BK152.out 1).trans rfl
          have hcz21_2 : w20.cell? ⟨gb152, 2, none⟩ = some (.int .i64 ((rd_T97 x8_1 x10_1).f2)) := (blk_cell BK152.out 2).trans rfl
          have hcz21_3 : w20.cell? ⟨gb152, 3, none⟩ = some (.int .i64 ((rd_T97 x8_1 x10_1).f3)) := (blk_cell BK152.out 3).trans rfl
          have hfz21_0 := blk_frozen BK152.out 0
          have hfz21_1 := blk_frozen BK152.out 1
          have hfz21_2 := blk_frozen BK152.out 2
          have hfz21_3 := blk_frozen BK152.out 3
          have p14 : 0 ≤ ((ji9) : Int) := of_decide_eq_true (by assumption)
          have q14 : ((ji9) : Int) < ((x3_1.length : Int) : Int) := of_decide_eq_true (by assumption)
          obtain ⟨go14, co14, eo14, gb14, gl14, cl14, HG14⟩ := Kd.R_form HO_3.out (by omega)
          (first | cases eo14 | (injection eo14 with ea_ en_ ec_; (first | subst ea_ | (injection ea_ with ea_; subst ea_)); subst ec_; clear en_))
          have GB14 := asd gb14
          have GG14 := asd HG14
          clear gb14 gl14 HG14
          (first | simp only [add_plain] at hx153_0 | skip)
          (first | simp only [add_plain] at hx153_1 | skip)
          (first | simp only [add_plain] at hx153_2 | skip)
          (first | simp only [add_plain] at hx153_3 | skip)
          obtain ⟨ce14, hcl14, hM14, hcc14, hfr14⟩ := Kd.R_elem HO_3.out z97 ((ji9) : Int) p14 q14
          obtain rfl := k97_openM hM14
          have hx14_0 : w20.cell? ⟨go14, ((ji9) : Int).toNat * 4, none⟩ = some (.int .i64 ((rd_T97 x3_1 (ji9)).f0)) := hcc14 0 _ rfl
          have hx14_1 : w20.cell? ⟨go14, ((ji9) : Int).toNat * 4 + 1, none⟩ = some (.int .i64 ((rd_T97 x3_1 (ji9)).f1)) := hcc14 1 _ rfl
          have hx14_2 : w20.cell? ⟨go14, ((ji9) : Int).toNat * 4 + 2, none⟩ = some (.int .i64 ((rd_T97 x3_1 (ji9)).f2)) := hcc14 2 _ rfl
          have hx14_3 : w20.cell? ⟨go14, ((ji9) : Int).toNat * 4 + 3, none⟩ = some (.int .i64 ((rd_T97 x3_1 (ji9)).f3)) := hcc14 3 _ rfl
          have hf14_0 : w20.frozen? ⟨go14, ((ji9) : Int).toNat * 4, none⟩ = false := hfr14 0
          have hf14_1 : w20.frozen? ⟨go14, ((ji9) : Int).toNat * 4 + 1, none⟩ = false := hfr14 1
          have hf14_2 : w20.frozen? ⟨go14, ((ji9) : Int).toNat * 4 + 2, none⟩ = false := hfr14 2
          have hf14_3 : w20.frozen? ⟨go14, ((ji9) : Int).toNat * 4 + 3, none⟩ = false := hfr14 3
          clear hcl14 hcc14 hfr14 hM14
          replace p14 := eq_true p14
          replace q14 := eq_true q14
          have HX22 := asd (show Kd.R k97 97 w20 w.heap.size (fun k_ => some k_ ≠ (.slice (some ad151) x8_1.length co4 : Value).ownBlock ∧ k_ ≠ gb152) (.slice (some ⟨go14, 0, none⟩) x3_1.length co17) x3_1 from (by (with_reducible repeat (first | apply Kd.R_alloc | apply Kd.R_drewN | apply Kd.R_drew)); exact HO_3.out))
          obtain ⟨ce22, hcl22, hM22, hcc22, hfr22⟩ := Kd.R_elem HX22.out z97 ((ji9) : Int) (of_decide_eq_true (by assumption)) (by have h_ : ((ji9) : Int) < ((x3_1.length : Int) : Int) := of_decide_eq_true (by assumption); first | exact h_ | (have e_ := (Kd.R_reads' HO_3.out).1; omega) | simpa using h_)
          obtain rfl := k97_openM hM22
          have HP22 := Kd.R_seg HX22.out ((ji9) : Int) (of_decide_eq_true (by assumption)) (by have h_ : ((ji9) : Int) < ((x3_1.length : Int) : Int) := of_decide_eq_true (by assumption); first | exact h_ | (have e_ := (Kd.R_reads' HO_3.out).1; omega) | simpa using h_) (seg := [.int .i64 ((rd_T97 x8_1 x10_1).f1)]) (j := 1) hcl22 hcc22 (show 2 ≤ 4 from by decide) (x' := (⟨(rd_T97 x3_1 (ji9)).f0, (rd_T97 x8_1 x10_1).f1, (rd_T97 x3_1 (ji9)).f2, (rd_T97 x3_1 (ji9)).f3⟩ : S97)) (k97_mkM _ _ _ (⟨(rd_T97 x3_1 (ji9)).f0, (rd_T97 x8_1 x10_1).f1, (rd_T97 x3_1 (ji9)).f2, (rd_T97 x3_1 (ji9)).f3⟩ : S97) ) (fun _ hk => hk)
          have hx22_1 := hcc22 1 _ rfl
          (try simp only [show (k97).sz = 4 from rfl, Nat.mul_one, Nat.add_zero] at hx22_1)
          have hf22_1 := hfr22 1
          (try simp only [show (k97).sz = 4 from rfl, Nat.mul_one, Nat.add_zero] at hf22_1)
          clear hcl22 hcc22 hfr22 hM22
          try go_wp2_with (first | ((with_reducible refine gate_store (t := 3) (p := 33) rfl ?_); refine store_event (t := 3) (p := 33) (v := ?vo_w23) (w1 := (w20.setCell ⟨go14, ((ji9) : Int).toNat * 4 + 1, none⟩ (.int .i64 ((rd_T97 x8_1 x10_1).f1)))) ?hg ?ho ?hn ?hr ?_; (case ho => rfl); (case hg => rfl); (case hn => rfl); (case hr => first | (go_simp; done) | (go_simp; rfl)); intro w23 hw; have hg : w20.grownBy w23 (some go14) := (by rw [hw]; exact HP22.2); have hp_ : Kd.R k97 97 w23 w.heap.size (fun k_ => some k_ ≠ (.slice (some ad151) x8_1.length co4 : Value).ownBlock ∧ k_ ≠ gb152) (.slice (some ⟨go14, 0, none⟩) x3_1.length co17) y155 := (by rw [hw, Ny155.out]; exact HP22.1); clear HP22; have n0_ := asd (hp_); have n1_ := asd (Kd.R_after (v := (.slice (some ⟨go14, 0, none⟩) x3_1.length co17)) (v1 := (.slice (some ⟨go14, 0, none⟩) x3_1.length co17)) (ok := (fun k_ => k_ ≠ gb152)) (by (with_reducible repeat (first | apply Kd.R_alloc | apply Kd.R_drewN | apply Kd.R_drew)); exact Kd.R_mono HO_8.out (fun _ hk => ⟨hk.2, hk.1⟩)) hg (.inl rfl)); have n2_ := asd (blk_grown (g := gb152) (o := .cells #[.int .i64 ((rd_T97 x8_1 x10_1).f0), .int .i64 ((rd_T97 x8_1 x10_1).f1), .int .i64 ((rd_T97 x8_1 x10_1).f2), .int .i64 ((rd_T97 x8_1 x10_1).f3)] 97 (0, 0)) (by (with_reducible repeat first | apply bn | apply bd | apply ba); exact BK152.out) hg (Kd.R_away HO_3.out (fun _ hk => hk.2))); have n3_ := asd ((by rw [hw]; exact below_set (HB.out) GB14.out : Below w.heap.size w w23)); clear HO_3; clear HO_8; clear BK152; clear HB; have HO_3 := n0_; have HO_8 := n1_; have BK152 := n2_; have HB := n3_; clear n0_ n1_ n2_ n3_; clear hg hw hp_))
          (try simp only [← hl8_1])
          go_roundg k1
          case measure => have := HK1.out; omega
          case rel => exact ⟨(y155), (x8_1), (wrap64 (x10_1 + 1)), (by first | rfl | (simp; done) | (simp [*]; done)), H', ⟨by have := HK1.out; omega⟩, ⟨by (try simp only [hl8_1]); (with_reducible repeat (first | apply Kd.R_alloc | apply Kd.R_drewN | apply Kd.R_drew)); exact Kd.R_mono HO_3.out (fun _ hk => hk.1)⟩, ⟨by (try simp only [hl8_1]); (with_reducible repeat (first | apply Kd.R_alloc | apply Kd.R_drewN | apply Kd.R_drew)); exact Kd.R_mono HO_8.out (fun _ hk => hk.2)⟩, ⟨by repeat (first | (with_reducible first | exact HB.out | apply wa | apply wn | apply wd | refine ws ?_ GE152.out) | exact HB.out)⟩⟩
         ·replace c13 := Bool.eq_false_iff.mpr c13
          subst c13
          have H1 : (if x3_1.length < 4398046511104 then (gantt_Bars.l0 k1 (x3_1 ++ [(⟨(rd_T97 x8_1 x10_1).f0, (rd_T97 x8_1 x10_1).f1, (rd_T97 x8_1 x10_1).f2, (rd_T97 x8_1 x10_1).f3⟩ : S97)]) x8_1 (t148.length : Int) (wrap64 (x10_1 + 1))) else (none)) = some r := by rw [if_neg (show ¬ (false = true) by decide)] at H; exact H
          clear H
          have H := H1
          clear H1
          by_cases c24 : x3_1.length < 4398046511104
          ·rw [if_pos c24] at H
           have LMc24 := asd c24
           clear c24
           obtain ⟨y156, hy156⟩ : ∃ y_ : List (S97), y_ = (x3_1 ++ [(⟨(rd_T97 x8_1 x10_1).f0, (rd_T97 x8_1 x10_1).f1, (rd_T97 x8_1 x10_1).f2, (rd_T97 x8_1 x10_1).f3⟩ : S97)]) := ⟨_, rfl⟩
           replace H : (gantt_Bars.l0 k1 y156 x8_1 (t148.length : Int) (wrap64 (x10_1 + 1))) = some r := by first | (rw [hy156]; with_reducible exact H) | (have H2_ := (Option.bind_some _ _).symm.trans H; rw [hy156]; with_reducible exact H2_) | (have H2_ := (Option.bind_some _ _).symm.trans H; with_reducible exact H2_) | with_reducible exact H | (rw [hy156]; exact H) | exact H
           have Ny156 := asd hy156
           clear hy156
           have H' := asd H
           clear H
           have p151 : 0 ≤ (x10_1 : Int) := of_decide_eq_true (by assumption)
           have q151 : x10_1 < (x8_1.length : Int) := of_decide_eq_true (by assumption)
           obtain ⟨ad151, e151, hx151_0, hx151_1, hx151_2, hx151_3⟩ := at_T97 (Kd.R_reads' HO_8.out).2.2 x10_1 p151 q151
           cases e151
           replace p151 := eq_true p151
           replace q151 := eq_true q151
           try go_wp2_with (first | ((with_reducible refine gate_dst (N := 5) rfl ?_); refine box_event ?hg (N := 5) ?hd (cs := #[.int .i64 0, .int .i64 0, .int .i64 0, .int .i64 0]) (t := 97) ?hr ?_; (case hd => rfl); (case hg => rfl); (case hr => first | (go_simp; done) | (go_simp; rfl)); intro gb152 hg w25 hbox hb; have n0_ := asd (Kd.R_below (Kd.R_elderB (by (with_reducible repeat (first | apply Kd.R_alloc | apply Kd.R_drewN | apply Kd.R_drew)); exact HO_3.out) gb152 (Nat.le_of_eq hg.symm)) hb); have n1_ := asd (Kd.R_below (Kd.R_elderB (by (with_reducible repeat (first | apply Kd.R_alloc | apply Kd.R_drewN | apply Kd.R_drew)); exact HO_8.out) gb152 (Nat.le_of_eq hg.symm)) hb); have n2_ := asd (below_step (by repeat (first | (with_reducible first | exact HB.out | apply wa | apply wn | apply wd) | exact HB.out)) hb); have n3_ := asd (hbox); have n4_ := asd ((by rw [hg]; exact (below_size (by repeat (first | (with_reducible first | exact HB.out | apply wa | apply wn | apply wd) | exact HB.out))) : w.heap.size ≤ gb152)); have n5_ := asd ((by rw [hg]; exact (below_size (by repeat (first | (with_reducible first | exact HB.out | apply wa | apply wn | apply wd) | exact HB.out))) : w.heap.size ≤ gb152)); clear HO_3; clear HO_8; clear HB; have HO_3 := n0_; have HO_8 := n1_; have HB := n2_; have BK152 := n3_; have GW152 := n4_; have GE152 := n5_; clear n0_ n1_ n2_ n3_ n4_ n5_; clear hb hbox hg; have hcz26_0 : w25.cell? ⟨gb152, 0, none⟩ = some (.int .i64 0) := (blk_cell BK152.out 0).trans rfl; have hcz26_1 : w25.cell? ⟨gb152, 1, none⟩ = some (.int .i64 0) := (blk_cell BK152.out 1).trans rfl; have hcz26_2 : w25.cell? ⟨gb152, 2, none⟩ = some (.int .i64 0) := (blk_cell BK152.out 2).trans rfl; have hcz26_3 : w25.cell? ⟨gb152, 3, none⟩ = some (.int .i64 0) := (blk_cell BK152.out 3).trans rfl; have hfz26_0 := blk_frozen BK152.out 0; have hfz26_1 := blk_frozen BK152.out 1; have hfz26_2 := blk_frozen BK152.out 2; have hfz26_3 := blk_frozen BK152.out 3; obtain ⟨Ao27, co27, eo27⟩ := Kd.R_slice HO_3.out; subst eo27))
           have n0_ : Aside0 (Kd.R k97 97 ((((w25.setCell ⟨gb152, 0, none⟩ (.int .i64 ((rd_T97 x8_1 x10_1).f0))).setCell ⟨gb152, 1, none⟩ (.int .i64 ((rd_T97 x8_1 x10_1).f1))).setCell ⟨gb152, 2, none⟩ (.int .i64 ((rd_T97 x8_1 x10_1).f2))).setCell ⟨gb152, 3, none⟩ (.int .i64 ((rd_T97 x8_1 x10_1).f3))) w.heap.size (fun k_ => some k_ ≠ (.slice (some ad151) x8_1.length co4 : Value).ownBlock ∧ k_ ≠ gb152) (.slice Ao27 x3_1.length co27) x3_1) := ⟨by (with_reducible repeat (first | apply Kd.R_alloc | apply Kd.R_drewN | apply Kd.R_drew)); exact Kd.R_mono (Kd.R_far (p := ⟨gb152, 3, none⟩) (Kd.R_far (p := ⟨gb152, 2, none⟩) (Kd.R_far (p := ⟨gb152, 1, none⟩) (Kd.R_far (p := ⟨gb152, 0, none⟩) (Kd.R_mono HO_3.out (fun k_ hk => (⟨hk, hk.2⟩ : _ ∧ k_ ≠ gb152))) (fun _ hk => hk.2) (.int .i64 ((rd_T97 x8_1 x10_1).f0))) (fun _ hk => hk.2) (.int .i64 ((rd_T97 x8_1 x10_1).f1))) (fun _ hk => hk.2) (.int .i64 ((rd_T97 x8_1 x10_1).f2))) (fun _ hk => hk.2) (.int .i64 ((rd_T97 x8_1 x10_1).f3))) (fun _ hk => ⟨hk.1.1, hk.1.2⟩)⟩
           have n1_ : Aside0 (Kd.R k97 97 ((((w25.setCell ⟨gb152, 0, none⟩ (.int .i64 ((rd_T97 x8_1 x10_1).f0))).setCell ⟨gb152, 1, none⟩ (.int .i64 ((rd_T97 x8_1 x10_1).f1))).setCell ⟨gb152, 2, none⟩ (.int .i64 ((rd_T97 x8_1 x10_1).f2))).setCell ⟨gb152, 3, none⟩ (.int .i64 ((rd_T97 x8_1 x10_1).f3))) w.heap.size (fun k_ => some k_ ≠ (.slice Ao27 x3_1.length co27 : Value).ownBlock ∧ k_ ≠ gb152) (.slice (some ad151) x8_1.length co4) x8_1) := ⟨by (with_reducible repeat (first | apply Kd.R_alloc | apply Kd.R_drewN | apply Kd.R_drew)); exact Kd.R_mono (Kd.R_far (p := ⟨gb152, 3, none⟩) (Kd.R_far (p := ⟨gb152, 2, none⟩) (Kd.R_far (p := ⟨gb152, 1, none⟩) (Kd.R_far (p := ⟨gb152, 0, none⟩) (Kd.R_mono HO_8.out (fun k_ hk => (⟨hk, hk.2⟩ : _ ∧ k_ ≠ gb152))) (fun _ hk => hk.2) (.int .i64 ((rd_T97 x8_1 x10_1).f0))) (fun _ hk => hk.2) (.int .i64 ((rd_T97 x8_1 x10_1).f1))) (fun _ hk => hk.2) (.int .i64 ((rd_T97 x8_1 x10_1).f2))) (fun _ hk => hk.2) (.int .i64 ((rd_T97 x8_1 x10_1).f3))) (fun _ hk => ⟨hk.1.1, hk.1.2⟩)⟩
           have n2_ : Aside0 (((((w25.setCell ⟨gb152, 0, none⟩ (.int .i64 ((rd_T97 x8_1 x10_1).f0))).setCell ⟨gb152, 1, none⟩ (.int .i64 ((rd_T97 x8_1 x10_1).f1))).setCell ⟨gb152, 2, none⟩ (.int .i64 ((rd_T97 x8_1 x10_1).f2))).setCell ⟨gb152, 3, none⟩ (.int .i64 ((rd_T97 x8_1 x10_1).f3))).heap[gb152]? = some (.cells #[.int .i64 ((rd_T97 x8_1 x10_1).f0), .int .i64 ((rd_T97 x8_1 x10_1).f1), .int .i64 ((rd_T97 x8_1 x10_1).f2), .int .i64 ((rd_T97 x8_1 x10_1).f3)] 97 (0, 0))) := ⟨by (with_reducible repeat first | apply bn | apply bd | apply ba); refine blk_put (cs := #[.int .i64 ((rd_T97 x8_1 x10_1).f0), .int .i64 ((rd_T97 x8_1 x10_1).f1), .int .i64 ((rd_T97 x8_1 x10_1).f2), .int .i64 0]) ?_ 3 _ rfl; (with_reducible repeat first | apply bn | apply bd | apply ba); refine blk_put (cs := #[.int .i64 ((rd_T97 x8_1 x10_1).f0), .int .i64 ((rd_T97 x8_1 x10_1).f1), .int .i64 0, .int .i64 0]) ?_ 2 _ rfl; (with_reducible repeat first | apply bn | apply bd | apply ba); refine blk_put (cs := #[.int .i64 ((rd_T97 x8_1 x10_1).f0), .int .i64 0, .int .i64 0, .int .i64 0]) ?_ 1 _ rfl; (with_reducible repeat first | apply bn | apply bd | apply ba); refine blk_put (cs := #[.int .i64 0, .int .i64 0, .int .i64 0, .int .i64 0]) ?_ 0 _ rfl; (with_reducible repeat first | apply bn | apply bd | apply ba); exact BK152.out⟩
           have n3_ : Aside0 (Below w.heap.size w ((((w25.setCell ⟨gb152, 0, none⟩ (.int .i64 ((rd_T97 x8_1 x10_1).f0))).setCell ⟨gb152, 1, none⟩ (.int .i64 ((rd_T97 x8_1 x10_1).f1))).setCell ⟨gb152, 2, none⟩ (.int .i64 ((rd_T97 x8_1 x10_1).f2))).setCell ⟨gb152, 3, none⟩ (.int .i64 ((rd_T97 x8_1 x10_1).f3)))) := ⟨by repeat (first | (with_reducible first | exact HB.out | apply wa | apply wn | apply wd | refine ws ?_ GE152.out) | exact HB.out)⟩
           (try clear HO_3)
           (try clear HO_8)
           (try clear BK152)
           (try clear HB)
           generalize ((((w25.setCell ⟨gb152, 0, none⟩ (.int .i64 ((rd_T97 x8_1 x10_1).f0))).setCell ⟨gb152, 1, none⟩ (.int .i64 ((rd_T97 x8_1 x10_1).f1))).setCell ⟨gb152, 2, none⟩ (.int .i64 ((rd_T97 x8_1 x10_1).f2))).setCell ⟨gb152, 3, none⟩ (.int .i64 ((rd_T97 x8_1 x10_1).f3))) = w28 at n0_ n1_ n2_ n3_ ⊢
           have HO_3 := n0_
           have HO_8 := n1_
           have BK152 := n2_
           have HB := n3_
           clear n0_ n1_ n2_ n3_
           have n0_ := asd (Kd.R_drew HO_3.out)
           have n1_ := asd (Kd.R_drew HO_8.out)
           have n2_ := asd (blk_drew BK152.out)
           have n3_ := asd (below_drew1 HB.out)
           clear HO_3
           clear HO_8
           clear BK152
           clear HB
           have HO_3 := n0_
           have HO_8 := n1_
           have BK152 := n2_
           have HB := n3_
           clear n0_ n1_ n2_ n3_
           have p153 : 0 ≤ ((ji9) : Int) := of_decide_eq_true (by assumption)
           have q153 : (ji9) < (x3_1.length : Int) := of_decide_eq_true (by assumption)
           obtain ⟨ad153, e153, hx153_0, hx153_1, hx153_2, hx153_3⟩ := at_T97 (Kd.R_reads' HO_3.out).2.2 (ji9) p153 q153
           cases e153
           replace p153 := eq_true p153
           replace q153 := eq_true q153
           refine start_ (n := 11) (S := fun w' => w'.cell? ⟨gb152, 0, none⟩ = some (.int .i64 ((rd_T97 x8_1 x10_1).f0)) ∧ w'.cell? ⟨gb152, 1, none⟩ = some (.int .i64 ((rd_T97 x8_1 x10_1).f1)) ∧ w'.cell? ⟨gb152, 2, none⟩ = some (.int .i64 ((rd_T97 x8_1 x10_1).f2)) ∧ w'.cell? ⟨gb152, 3, none⟩ = some (.int .i64 ((rd_T97 x8_1 x10_1).f3)) ∧ w'.cell? (ad153.add (((ji9)).toNat * 4)) = some (.int .i64 ((rd_T97 x3_1 (ji9)).f0)) ∧ w'.cell? ⟨(ad153.add (((ji9)).toNat * 4)).block, (ad153.add (((ji9)).toNat * 4)).off + 1, none⟩ = some (.int .i64 ((rd_T97 x3_1 (ji9)).f1)) ∧ w'.cell? ⟨(ad153.add (((ji9)).toNat * 4)).block, (ad153.add (((ji9)).toNat * 4)).off + 2, none⟩ = some (.int .i64 ((rd_T97 x3_1 (ji9)).f2)) ∧ w'.cell? ⟨(ad153.add (((ji9)).toNat * 4)).block, (ad153.add (((ji9)).toNat * 4)).off + 3, none⟩ = some (.int .i64 ((rd_T97 x3_1 (ji9)).f3))) (ds := []) #[false, false, false, false, false, false, false, false, false, false, false] (by kernel_rfl) rfl rfl ⟨(blk_cell BK152.out 0).trans rfl, (blk_cell BK152.out 1).trans rfl, (blk_cell BK152.out 2).trans rfl, (blk_cell BK152.out 3).trans rfl, hx153_0, hx153_1, hx153_2, hx153_3⟩ (fun hHeld => ?_); refine with_tabW gantt_Bars.tab6 gantt_Bars.bits6 (fun HT_ HW_ => ?_)
           generalize w28.drew = w29 at HO_3 HO_8 BK152 HB hx153_0 hx153_1 hx153_2 hx153_3 hHeld ⊢
           refine pure_ (i := 0) (N := some 16) (v := ?_) (a' := ?_) #[true, false, false, false, false, false, false, false, false, false, false] rfl rfl (any_of HT_.out (by kernel_rfl)) (fun _ _ _ h => h) (Or.inl ⟨by rfl, ?_⟩) ?_ ?_
           rotate_left
           ·intro w'
            go_simp
            with_reducible rfl
           rotate_left
           ·simp only [Act.put, sB, i64_w, i32_w]
            rfl
           refine pure_ (i := 1) (N := some 17) (v := ?_) (a' := ?_) #[true, true, false, false, false, false, false, false, false, false, false] rfl rfl (any_of HT_.out (by kernel_rfl)) (fun _ _ _ h => h) (Or.inl ⟨by rfl, ?_⟩) ?_ ?_
           rotate_left
           ·intro w'
            go_simp
            with_reducible rfl
           rotate_left
           ·simp only [Act.put, sB, i64_w, i32_w]
            rfl
           refine pure_ (i := 2) (N := some 18) (v := ?_) (a' := ?_) #[true, true, true, false, false, false, false, false, false, false, false] rfl rfl (any_of HT_.out (by kernel_rfl)) (fun _ _ _ h => h) (Or.inl ⟨by rfl, ?_⟩) ?_ ?_
           rotate_left
           ·intro w'
            go_simp
            with_reducible rfl
           rotate_left
           ·simp only [Act.put, sB, i64_w, i32_w]
            rfl
           refine pure_ (i := 3) (N := some 19) (v := ?_) (a' := ?_) #[true, true, true, true, false, false, false, false, false, false, false] rfl rfl (any_of HT_.out (by kernel_rfl)) (fun _ _ _ h => h) (Or.inl ⟨by rfl, ?_⟩) ?_ ?_
           rotate_left
           ·intro w'
            go_simp
            with_reducible rfl
           rotate_left
           ·simp only [Act.put, sB, i64_w, i32_w]
            rfl
           refine pure_ (i := 4) (N := some 20) (v := ?_) (a' := ?_) #[true, true, true, true, true, false, false, false, false, false, false] rfl rfl (any_of HT_.out (by kernel_rfl)) (fun _ _ _ h => h) (Or.inl ⟨by rfl, ?_⟩) ?_ ?_
           rotate_left
           ·intro w'
            go_simp
            with_reducible rfl
           rotate_left
           ·simp only [Act.put, sB, i64_w, i32_w]
            rfl
           refine pure_ (i := 5) (N := some 21) (v := ?_) (a' := ?_) #[true, true, true, true, true, true, false, false, false, false, false] rfl rfl (any_of HT_.out (by kernel_rfl)) (fun _ _ _ h => h) (Or.inl ⟨by rfl, ?_⟩) ?_ ?_
           rotate_left
           ·intro w'
            go_simp
            with_reducible rfl
           rotate_left
           ·simp only [Act.put, sB, i64_w, i32_w]
            rfl
           refine pure_ (i := 6) (N := some 22) (v := ?_) (a' := ?_) #[true, true, true, true, true, true, true, false, false, false, false] rfl rfl (any_of HT_.out (by kernel_rfl)) (fun _ _ _ h => h) (Or.inl ⟨by rfl, ?_⟩) ?_ ?_
           rotate_left
           ·intro w'
            go_simp
            with_reducible rfl
           rotate_left
           ·simp only [Act.put, sB, i64_w, i32_w]
            rfl
           refine take_ (i := 7) (N := some 23) (v := ?_) (a' := ?_) #[true, true, true, true, true, true, true, true, false, false, false] rfl rfl (take_ofW HT_.out HW_.out (by kernel_rfl)) (fun _ _ _ h => h) (Or.inl ⟨by rfl, ?_⟩) hHeld ?_ ?_
           rotate_left
           ·rintro w' ⟨s0, s1, s2, s3, s4, s5, s6, s7⟩
            go_simp
            with_reducible rfl
           rotate_left
           ·simp only [Act.put, sB, i64_w, i32_w]
            rfl
           refine take_ (i := 8) (N := some 24) (v := ?_) (a' := ?_) #[true, true, true, true, true, true, true, true, true, false, false] rfl rfl (take_ofW HT_.out HW_.out (by kernel_rfl)) (fun _ _ _ h => h) (Or.inl ⟨by rfl, ?_⟩) hHeld ?_ ?_
           rotate_left
           ·rintro w' ⟨s0, s1, s2, s3, s4, s5, s6, s7⟩
            go_simp
            with_reducible rfl
           rotate_left
           ·simp only [Act.put, sB, i64_w, i32_w]
            rfl
           refine one_ (i := 9) (N := some 25) #[true, true, true, true, true, true, true, true, true, true, false] rfl rfl (one_of HT_.out (by kernel_rfl)) (by decide) (fun K hK => ?_)
           refine goes_ Try.func73 (by kernel_rfl) rfl #[.agg #[.int .i64 ((rd_T97 x3_1 (ji9)).f0), .int .i64 ((rd_T97 x3_1 (ji9)).f1), .int .i64 ((rd_T97 x3_1 (ji9)).f2), .int .i64 ((rd_T97 x3_1 (ji9)).f3)], .agg #[.int .i64 ((rd_T97 x8_1 x10_1).f0), .int .i64 ((rd_T97 x8_1 x10_1).f1), .int .i64 ((rd_T97 x8_1 x10_1).f2), .int .i64 ((rd_T97 x8_1 x10_1).f3)]] (by rfl) rfl rfl (by (try simp only [List.map_toArray, List.map_cons, List.map_nil]); first | done | (simp only [hji9]; rfl) | rfl | (simp only [List.length_drop, List.length_take]; rfl)) ?_
           with_reducible refine (gantt_Bar_grows.calls ((rd_T97 x3_1 (ji9)).f0) ((rd_T97 x3_1 (ji9)).f1) ((rd_T97 x3_1 (ji9)).f2) ((rd_T97 x3_1 (ji9)).f3) ((rd_T97 x8_1 x10_1).f0) ((rd_T97 x8_1 x10_1).f1) ((rd_T97 x8_1 x10_1).f2) ((rd_T97 x8_1 x10_1).f3) false _ A12.out).mono ?_
           rintro e w30 ⟨rfl, hb⟩
           have HS4_ := (hb.cell (World.block_lt_of_cell? _ _ (hHeld.2.2.2.2.1))).trans (hHeld.2.2.2.2.1)
           have HS5_ := (hb.cell (World.block_lt_of_cell? _ _ (hHeld.2.2.2.2.2.1))).trans (hHeld.2.2.2.2.2.1)
           have HS6_ := (hb.cell (World.block_lt_of_cell? _ _ (hHeld.2.2.2.2.2.2.1))).trans (hHeld.2.2.2.2.2.2.1)
           have HS7_ := (hb.cell (World.block_lt_of_cell? _ _ (hHeld.2.2.2.2.2.2.2))).trans (hHeld.2.2.2.2.2.2.2)
           refine ⟨_, rfl, ?_⟩
           have n0_ := asd (Kd.R_below (by (with_reducible repeat (first | apply Kd.R_alloc | apply Kd.R_drewN | apply Kd.R_drew)); exact HO_3.out) hb)
           have n1_ := asd (Kd.R_below (by (with_reducible repeat (first | apply Kd.R_alloc | apply Kd.R_drewN | apply Kd.R_drew)); exact HO_8.out) hb)
           have n2_ := asd (blk_below (g := gb152) (o := .cells #[.int .i64 ((rd_T97 x8_1 x10_1).f0), .int .i64 ((rd_T97 x8_1 x10_1).f1), .int .i64 ((rd_T97 x8_1 x10_1).f2), .int .i64 ((rd_T97 x8_1 x10_1).f3)] 97 (0, 0)) (by (with_reducible repeat first | apply bn | apply bd | apply ba); exact BK152.out) hb)
           have n3_ := asd (below_step (by repeat (first | (with_reducible first | exact HB.out | apply wa | apply wn | apply wd | refine ws ?_ GE152.out) | exact HB.out)) hb)
           clear HO_3
           clear HO_8
           clear BK152
           clear HB
           have HO_3 := n0_
           have HO_8 := n1_
           have BK152 := n2_
           have HB := n3_
           clear n0_ n1_ n2_ n3_
           (try clear hb)
           (try clear hb2)
           (try clear hk)
           (try clear hi)
           refine hK.out _ _ ⟨(blk_cell BK152.out 0).trans rfl, (blk_cell BK152.out 1).trans rfl, (blk_cell BK152.out 2).trans rfl, (blk_cell BK152.out 3).trans rfl, HS4_, HS5_, HS6_, HS7_⟩ (fun hHeld => ?_)
           clear hK K
           refine norm_ (a' := ?_) ?_ ?_
           rotate_left
           ·show Act.put _ (some 25) _ = _
            simp only [Act.put, sB, i64_w, i32_w]
            rfl
           refine pure_ (i := 10) (N := some 26) (v := ?_) (a' := ?_) #[true, true, true, true, true, true, true, true, true, true, true] rfl rfl (any_of HT_.out (by kernel_rfl)) (fun _ _ _ h => h) (Or.inl ⟨by rfl, ?_⟩) ?_ ?_
           rotate_left
           ·intro w'
            go_simp
            with_reducible rfl
           rotate_left
           ·simp only [Act.put, sB, i64_w, i32_w]
            rfl
           refine done_ (done_of HT_.out (by kernel_rfl)) ?_
           have hcz31_0 : w30.cell? ⟨gb152, 0, none⟩ = some (.int .i64 ((rd_T97 x8_1 x10_1).f0)) := (blk_cell BK152.out 0).trans rfl
           have hcz31_1 : w30.cell? ⟨gb152, 1, none⟩ = some (.int .i64 ((rd_T97 x8_1 x10_1).f1)) := (blk_cell BK152.out 1).trans rfl
           have hcz31_2 : w30.cell? ⟨gb152, 2, none⟩ = some (.int .i64 ((rd_T97 x8_1 x10_1).f2)) := (blk_cell BK152.out 2).trans rfl
           have hcz31_3 : w30.cell? ⟨gb152, 3, none⟩ = some (.int .i64 ((rd_T97 x8_1 x10_1).f3)) := (blk_cell BK152.out 3).trans rfl
           have hfz31_0 := blk_frozen BK152.out 0
           have hfz31_1 := blk_frozen BK152.out 1
           have hfz31_2 := blk_frozen BK152.out 2
           have hfz31_3 := blk_frozen BK152.out 3
           try go_wp2_with (first | ((with_reducible refine gate_builtin (b := .append) (xs := #[.tmp 34, .tmp 36]) rfl ?_); at_builtin; refine Kd.R_append k97 (w0 := w) w.heap.size rfl (.tmp 34) (.tmp 36) 44 97 (.agg #[(.int .i64 0), (.int .i64 0), (.int .i64 0), (.int .i64 0)]) 32 rfl Try.underlying44 info97 rfl (by decide) (by omega) (.slice (some ad153) x3_1.length co27) x3_1 (⟨(rd_T97 x8_1 x10_1).f0, (rd_T97 x8_1 x10_1).f1, (rd_T97 x8_1 x10_1).f2, (rd_T97 x8_1 x10_1).f3⟩ : S97) [.int .i64 ((rd_T97 x8_1 x10_1).f0), .int .i64 ((rd_T97 x8_1 x10_1).f1), .int .i64 ((rd_T97 x8_1 x10_1).f2), .int .i64 ((rd_T97 x8_1 x10_1).f3)] (fun k_ => some k_ ≠ (.slice (some ad151) x8_1.length co4 : Value).ownBlock ∧ k_ ≠ gb152) (fun _ => False) rfl rfl ?aP (fun _ hk => hk.elim) ?aF ?aO ?aB ?aS ?aL ?_; (case aP => exact k97_mkM _ _ _ (⟨(rd_T97 x8_1 x10_1).f0, (rd_T97 x8_1 x10_1).f1, (rd_T97 x8_1 x10_1).f2, (rd_T97 x8_1 x10_1).f3⟩ : S97)); (case aB => exact (by repeat (first | (with_reducible first | exact HB.out | apply wa | apply wn | apply wd | refine ws ?_ GE152.out) | exact HB.out))); (case aF => exact (fun k_ hk => ⟨Kd.fresh' (Kd.R_lt (by (with_reducible repeat (first | apply Kd.R_alloc | apply Kd.R_drewN | apply Kd.R_drew)); exact HO_8.out)) k_ hk, Kd.freshB (g := gb152) (o := .cells #[.int .i64 ((rd_T97 x8_1 x10_1).f0), .int .i64 ((rd_T97 x8_1 x10_1).f1), .int .i64 ((rd_T97 x8_1 x10_1).f2), .int .i64 ((rd_T97 x8_1 x10_1).f3)] 97 (0, 0)) (by (with_reducible repeat first | apply bn | apply bd | apply ba); exact BK152.out) k_ hk⟩)); (case aO => exact (by (with_reducible repeat (first | apply Kd.R_alloc | apply Kd.R_drewN | apply Kd.R_drew)); exact HO_3.out)); (case aS => exact (below_size (by repeat (first | (with_reducible first | exact HB.out | apply wa | apply wn | apply wd | refine ws ?_ GE152.out) | exact HB.out)))); (case aL => have := LMc24.out; omega); intro v157 w32 ho hb hg hat; rw [← Ny156.out] at ho; have n0_ := asd (Kd.R_after (ok := (fun k_ => k_ ≠ gb152)) (by (with_reducible repeat (first | apply Kd.R_alloc | apply Kd.R_drewN | apply Kd.R_drew)); exact Kd.R_mono HO_8.out (fun _ hk => ⟨hk.2, hk.1⟩)) hg hat); have n1_ := asd (blk_grown (g := gb152) (o := .cells #[.int .i64 ((rd_T97 x8_1 x10_1).f0), .int .i64 ((rd_T97 x8_1 x10_1).f1), .int .i64 ((rd_T97 x8_1 x10_1).f2), .int .i64 ((rd_T97 x8_1 x10_1).f3)] 97 (0, 0)) (by (with_reducible repeat first | apply bn | apply bd | apply ba); exact BK152.out) hg (Kd.R_away HO_3.out (fun _ hk => hk.2))); have n2_ := asd (hb); have n3_ := asd (ho); clear HO_8; clear BK152; clear HB; clear HO_3; have HO_8 := n0_; have BK152 := n1_; have HB := n2_; have HO158 := n3_; clear n0_ n1_ n2_ n3_; clear ho hb hg hat))
           (try simp only [← hl8_1])
           go_roundg k1
           case measure => have := HK1.out; omega
           case rel => exact ⟨(y156), (x8_1), (wrap64 (x10_1 + 1)), (by first | rfl | (simp; done) | (simp [*]; done)), H', ⟨by have := HK1.out; omega⟩, ⟨by (try simp only [hl8_1]); (with_reducible repeat (first | apply Kd.R_alloc | apply Kd.R_drewN | apply Kd.R_drew)); exact Kd.R_mono HO158.out (fun _ hk => hk.1)⟩, ⟨by (try simp only [hl8_1]); (with_reducible repeat (first | apply Kd.R_alloc | apply Kd.R_drewN | apply Kd.R_drew)); exact Kd.R_mono HO_8.out (fun _ hk => hk.2)⟩, ⟨by repeat (first | (with_reducible first | exact HB.out | apply wa | apply wn | apply wd | refine ws ?_ GE152.out) | exact HB.out)⟩⟩
          ·rw [if_neg c24] at H
           exact absurd H (by simp)
        ·rw [if_neg c11] at H
         exact absurd H (by simp)
       ·rw [if_neg c10] at H
        exact absurd H (by simp)
      ·rw [if_neg c8] at H
       have c8b0 : decide (0 < (x3_1.length : Int)) = false := decide_eq_false c8
       have c8b1 : decide (0 < x3_1.length) = false := decide_eq_false (by omega)
       clear c8
       by_cases c33 : x3_1.length < 4398046511104
       ·rw [if_pos c33] at H
        have LMc33 := asd c33
        clear c33
        obtain ⟨y159, hy159⟩ : ∃ y_ : List (S97), y_ = (x3_1 ++ [(⟨(rd_T97 x8_1 x10_1).f0, (rd_T97 x8_1 x10_1).f1, (rd_T97 x8_1 x10_1).f2, (rd_T97 x8_1 x10_1).f3⟩ : S97)]) := ⟨_, rfl⟩
        replace H : (gantt_Bars.l0 k1 y159 x8_1 (t148.length : Int) (wrap64 (x10_1 + 1))) = some r := by first | (rw [hy159]; with_reducible exact H) | (have H2_ := (Option.bind_some _ _).symm.trans H; rw [hy159]; with_reducible exact H2_) | (have H2_ := (Option.bind_some _ _).symm.trans H; with_reducible exact H2_) | with_reducible exact H | (rw [hy159]; exact H) | exact H
        have Ny159 := asd hy159
        clear hy159
        have H' := asd H
        clear H
        have p151 : 0 ≤ (x10_1 : Int) := of_decide_eq_true (by assumption)
        have q151 : x10_1 < (x8_1.length : Int) := of_decide_eq_true (by assumption)
        obtain ⟨ad151, e151, hx151_0, hx151_1, hx151_2, hx151_3⟩ := at_T97 (Kd.R_reads' HO_8.out).2.2 x10_1 p151 q151
        cases e151
        replace p151 := eq_true p151
        replace q151 := eq_true q151
        try go_wp2_with (first | ((with_reducible refine gate_dst (N := 5) rfl ?_); refine box_event ?hg (N := 5) ?hd (cs := #[.int .i64 0, .int .i64 0, .int .i64 0, .int .i64 0]) (t := 97) ?hr ?_; (case hd => rfl); (case hg => rfl); (case hr => first | (go_simp; done) | (go_simp; rfl)); intro gb152 hg w34 hbox hb; have n0_ := asd (Kd.R_below (Kd.R_elderB (by (with_reducible repeat (first | apply Kd.R_alloc | apply Kd.R_drewN | apply Kd.R_drew)); exact HO_3.out) gb152 (Nat.le_of_eq hg.symm)) hb); have n1_ := asd (Kd.R_below (Kd.R_elderB (by (with_reducible repeat (first | apply Kd.R_alloc | apply Kd.R_drewN | apply Kd.R_drew)); exact HO_8.out) gb152 (Nat.le_of_eq hg.symm)) hb); have n2_ := asd (below_step (by repeat (first | (with_reducible first | exact HB.out | apply wa | apply wn | apply wd) | exact HB.out)) hb); have n3_ := asd (hbox); have n4_ := asd ((by rw [hg]; exact (below_size (by repeat (first | (with_reducible first | exact HB.out | apply wa | apply wn | apply wd) | exact HB.out))) : w.heap.size ≤ gb152)); have n5_ := asd ((by rw [hg]; exact (below_size (by repeat (first | (with_reducible first | exact HB.out | apply wa | apply wn | apply wd) | exact HB.out))) : w.heap.size ≤ gb152)); clear HO_3; clear HO_8; clear HB; have HO_3 := n0_; have HO_8 := n1_; have HB := n2_; have BK152 := n3_; have GW152 := n4_; have GE152 := n5_; clear n0_ n1_ n2_ n3_ n4_ n5_; clear hb hbox hg; have hcz35_0 : w34.cell? ⟨gb152, 0, none⟩ = some (.int .i64 0) := (blk_cell BK152.out 0).trans rfl; have hcz35_1 : w34.cell? ⟨gb152, 1, none⟩ = some (.int .i64 0) := (blk_cell BK152.out 1).trans rfl; have hcz35_2 : w34.cell? ⟨gb152, 2, none⟩ = some (.int .i64 0) := (blk_cell BK152.out 2).trans rfl; have hcz35_3 : w34.cell? ⟨gb152, 3, none⟩ = some (.int .i64 0) := (blk_cell BK152.out 3).trans rfl; have hfz35_0 := blk_frozen BK152.out 0; have hfz35_1 := blk_frozen BK152.out 1; have hfz35_2 := blk_frozen BK152.out 2; have hfz35_3 := blk_frozen BK152.out 3; obtain ⟨Ao36, co36, eo36⟩ := Kd.R_slice HO_3.out; subst eo36))
        have n0_ : Aside0 (Kd.R k97 97 ((((w34.setCell ⟨gb152, 0, none⟩ (.int .i64 ((rd_T97 x8_1 x10_1).f0))).setCell ⟨gb152, 1, none⟩ (.int .i64 ((rd_T97 x8_1 x10_1).f1))).setCell ⟨gb152, 2, none⟩ (.int .i64 ((rd_T97 x8_1 x10_1).f2))).setCell ⟨gb152, 3, none⟩ (.int .i64 ((rd_T97 x8_1 x10_1).f3))) w.heap.size (fun k_ => some k_ ≠ (.slice (some ad151) x8_1.length co4 : Value).ownBlock ∧ k_ ≠ gb152) (.slice Ao36 x3_1.length co36) x3_1) := ⟨by (with_reducible repeat (first | apply Kd.R_alloc | apply Kd.R_drewN | apply Kd.R_drew)); exact Kd.R_mono (Kd.R_far (p := ⟨gb152, 3, none⟩) (Kd.R_far (p := ⟨gb152, 2, none⟩) (Kd.R_far (p := ⟨gb152, 1, none⟩) (Kd.R_far (p := ⟨gb152, 0, none⟩) (Kd.R_mono HO_3.out (fun k_ hk => (⟨hk, hk.2⟩ : _ ∧ k_ ≠ gb152))) (fun _ hk => hk.2) (.int .i64 ((rd_T97 x8_1 x10_1).f0))) (fun _ hk => hk.2) (.int .i64 ((rd_T97 x8_1 x10_1).f1))) (fun _ hk => hk.2) (.int .i64 ((rd_T97 x8_1 x10_1).f2))) (fun _ hk => hk.2) (.int .i64 ((rd_T97 x8_1 x10_1).f3))) (fun _ hk => ⟨hk.1.1, hk.1.2⟩)⟩
        have n1_ : Aside0 (Kd.R k97 97 ((((w34.setCell ⟨gb152, 0, none⟩ (.int .i64 ((rd_T97 x8_1 x10_1).f0))).setCell ⟨gb152, 1, none⟩ (.int .i64 ((rd_T97 x8_1 x10_1).f1))).setCell ⟨gb152, 2, none⟩ (.int .i64 ((rd_T97 x8_1 x10_1).f2))).setCell ⟨gb152, 3, none⟩ (.int .i64 ((rd_T97 x8_1 x10_1).f3))) w.heap.size (fun k_ => some k_ ≠ (.slice Ao36 x3_1.length co36 : Value).ownBlock ∧ k_ ≠ gb152) (.slice (some ad151) x8_1.length co4) x8_1) := ⟨by (with_reducible repeat (first | apply Kd.R_alloc | apply Kd.R_drewN | apply Kd.R_drew)); exact Kd.R_mono (Kd.R_far (p := ⟨gb152, 3, none⟩) (Kd.R_far (p := ⟨gb152, 2, none⟩) (Kd.R_far (p := ⟨gb152, 1, none⟩) (Kd.R_far (p := ⟨gb152, 0, none⟩) (Kd.R_mono HO_8.out (fun k_ hk => (⟨hk, hk.2⟩ : _ ∧ k_ ≠ gb152))) (fun _ hk => hk.2) (.int .i64 ((rd_T97 x8_1 x10_1).f0))) (fun _ hk => hk.2) (.int .i64 ((rd_T97 x8_1 x10_1).f1))) (fun _ hk => hk.2) (.int .i64 ((rd_T97 x8_1 x10_1).f2))) (fun _ hk => hk.2) (.int .i64 ((rd_T97 x8_1 x10_1).f3))) (fun _ hk => ⟨hk.1.1, hk.1.2⟩)⟩
        have n2_ : Aside0 (((((w34.setCell ⟨gb152, 0, none⟩ (.int .i64 ((rd_T97 x8_1 x10_1).f0))).setCell ⟨gb152, 1, none⟩ (.int .i64 ((rd_T97 x8_1 x10_1).f1))).setCell ⟨gb152, 2, none⟩ (.int .i64 ((rd_T97 x8_1 x10_1).f2))).setCell ⟨gb152, 3, none⟩ (.int .i64 ((rd_T97 x8_1 x10_1).f3))).heap[gb152]? = some (.cells #[.int .i64 ((rd_T97 x8_1 x10_1).f0), .int .i64 ((rd_T97 x8_1 x10_1).f1), .int .i64 ((rd_T97 x8_1 x10_1).f2), .int .i64 ((rd_T97 x8_1 x10_1).f3)] 97 (0, 0))) := ⟨by (with_reducible repeat first | apply bn | apply bd | apply ba); refine blk_put (cs := #[.int .i64 ((rd_T97 x8_1 x10_1).f0), .int .i64 ((rd_T97 x8_1 x10_1).f1), .int .i64 ((rd_T97 x8_1 x10_1).f2), .int .i64 0]) ?_ 3 _ rfl; (with_reducible repeat first | apply bn | apply bd | apply ba); refine blk_put (cs := #[.int .i64 ((rd_T97 x8_1 x10_1).f0), .int .i64 ((rd_T97 x8_1 x10_1).f1), .int .i64 0, .int .i64 0]) ?_ 2 _ rfl; (with_reducible repeat first | apply bn | apply bd | apply ba); refine blk_put (cs := #[.int .i64 ((rd_T97 x8_1 x10_1).f0), .int .i64 0, .int .i64 0, .int .i64 0]) ?_ 1 _ rfl; (with_reducible repeat first | apply bn | apply bd | apply ba); refine blk_put (cs := #[.int .i64 0, .int .i64 0, .int .i64 0, .int .i64 0]) ?_ 0 _ rfl; (with_reducible repeat first | apply bn | apply bd | apply ba); exact BK152.out⟩
        have n3_ : Aside0 (Below w.heap.size w ((((w34.setCell ⟨gb152, 0, none⟩ (.int .i64 ((rd_T97 x8_1 x10_1).f0))).setCell ⟨gb152, 1, none⟩ (.int .i64 ((rd_T97 x8_1 x10_1).f1))).setCell ⟨gb152, 2, none⟩ (.int .i64 ((rd_T97 x8_1 x10_1).f2))).setCell ⟨gb152, 3, none⟩ (.int .i64 ((rd_T97 x8_1 x10_1).f3)))) := ⟨by repeat (first | (with_reducible first | exact HB.out | apply wa | apply wn | apply wd | refine ws ?_ GE152.out) | exact HB.out)⟩
        (try clear HO_3)
        (try clear HO_8)
        (try clear BK152)
        (try clear HB)
        generalize ((((w34.setCell ⟨gb152, 0, none⟩ (.int .i64 ((rd_T97 x8_1 x10_1).f0))).setCell ⟨gb152, 1, none⟩ (.int .i64 ((rd_T97 x8_1 x10_1).f1))).setCell ⟨gb152, 2, none⟩ (.int .i64 ((rd_T97 x8_1 x10_1).f2))).setCell ⟨gb152, 3, none⟩ (.int .i64 ((rd_T97 x8_1 x10_1).f3))) = w37 at n0_ n1_ n2_ n3_ ⊢
        have HO_3 := n0_
        have HO_8 := n1_
        have BK152 := n2_
        have HB := n3_
        clear n0_ n1_ n2_ n3_
        have n0_ := asd (Kd.R_drew HO_3.out)
        have n1_ := asd (Kd.R_drew HO_8.out)
        have n2_ := asd (blk_drew BK152.out)
        have n3_ := asd (below_drew1 HB.out)
        clear HO_3
        clear HO_8
        clear BK152
        clear HB
        have HO_3 := n0_
        have HO_8 := n1_
        have BK152 := n2_
        have HB := n3_
        clear n0_ n1_ n2_ n3_
        refine start_ (n := 11) (S := fun w' => True) (ds := []) #[false, false, false, false, false, false, false, false, false, false, false] (by kernel_rfl) rfl rfl trivial (fun hHeld => ?_); refine with_tabW gantt_Bars.tab6 gantt_Bars.bits6 (fun HT_ HW_ => ?_)
        generalize w37.drew = w38 at HO_3 HO_8 BK152 HB hHeld ⊢
        refine pure_ (i := 0) (N := some 16) (v := ?_) (a' := ?_) #[true, false, false, false, false, false, false, false, false, false, false] rfl rfl (any_of HT_.out (by kernel_rfl)) (fun _ _ _ h => h) (Or.inl ⟨by rfl, ?_⟩) ?_ ?_
        rotate_left
        ·intro w'
         go_simp
         with_reducible rfl
        rotate_left
        ·simp only [Act.put, sB, i64_w, i32_w]
         rfl
        refine pure_ (i := 1) (N := some 17) (v := ?_) (a' := ?_) #[true, true, false, false, false, false, false, false, false, false, false] rfl rfl (any_of HT_.out (by kernel_rfl)) (fun _ _ _ h => h) (Or.inl ⟨by rfl, ?_⟩) ?_ ?_
        rotate_left
        ·intro w'
         go_simp
         with_reducible rfl
        rotate_left
        ·simp only [Act.put, sB, i64_w, i32_w]
         rfl
        refine pure_ (i := 2) (N := some 18) (v := ?_) (a' := ?_) #[true, true, true, false, false, false, false, false, false, false, false] rfl rfl (any_of HT_.out (by kernel_rfl)) (fun _ _ _ h => h) (Or.inl ⟨by rfl, ?_⟩) ?_ ?_
        rotate_left
        ·intro w'
         go_simp
         with_reducible rfl
        rotate_left
        ·simp only [Act.put, sB, i64_w, i32_w]
         rfl
        refine pure_ (i := 3) (N := some 19) (v := undef) (a' := ?_) #[true, true, true, true, false, false, false, false, false, false, false] rfl rfl (any_of HT_.out (by kernel_rfl)) (fun _ _ _ h => h) (Or.inr ⟨by rfl, rfl⟩) ?_ ?_
        rotate_left
        ·simp only [Act.put, sB, i64_w, i32_w]
         rfl
        refine pure_ (i := 4) (N := some 20) (v := undef) (a' := ?_) #[true, true, true, true, true, false, false, false, false, false, false] rfl rfl (any_of HT_.out (by kernel_rfl)) (fun _ _ _ h => h) (Or.inr ⟨by rfl, rfl⟩) ?_ ?_
        rotate_left
        ·simp only [Act.put, sB, i64_w, i32_w]
         rfl
        refine pure_ (i := 5) (N := some 21) (v := undef) (a' := ?_) #[true, true, true, true, true, true, false, false, false, false, false] rfl rfl (any_of HT_.out (by kernel_rfl)) (fun _ _ _ h => h) (Or.inr ⟨by rfl, rfl⟩) ?_ ?_
        rotate_left
        ·simp only [Act.put, sB, i64_w, i32_w]
         rfl
        refine pure_ (i := 6) (N := some 22) (v := undef) (a' := ?_) #[true, true, true, true, true, true, true, false, false, false, false] rfl rfl (any_of HT_.out (by kernel_rfl)) (fun _ _ _ h => h) (Or.inr ⟨by rfl, rfl⟩) ?_ ?_
        rotate_left
        ·simp only [Act.put, sB, i64_w, i32_w]
         rfl
        refine pure_ (i := 7) (N := some 23) (v := undef) (a' := ?_) #[true, true, true, true, true, true, true, true, false, false, false] rfl rfl (any_of HT_.out (by kernel_rfl)) (fun _ _ _ h => h) (Or.inr ⟨by rfl, rfl⟩) ?_ ?_
        rotate_left
        ·simp only [Act.put, sB, i64_w, i32_w]
         rfl
        refine pure_ (i := 8) (N := some 24) (v := undef) (a' := ?_) #[true, true, true, true, true, true, true, true, true, false, false] rfl rfl (any_of HT_.out (by kernel_rfl)) (fun _ _ _ h => h) (Or.inr ⟨by rfl, rfl⟩) ?_ ?_
        rotate_left
        ·simp only [Act.put, sB, i64_w, i32_w]
         rfl
        refine pure_ (i := 9) (N := some 25) (v := undef) (a' := ?_) #[true, true, true, true, true, true, true, true, true, true, false] rfl rfl (any_of HT_.out (by kernel_rfl)) (fun _ _ _ h => h) (Or.inr ⟨by rfl, rfl⟩) ?_ ?_
        rotate_left
        ·simp only [Act.put, sB, i64_w, i32_w]
         rfl
        refine pure_ (i := 10) (N := some 26) (v := ?_) (a' := ?_) #[true, true, true, true, true, true, true, true, true, true, true] rfl rfl (any_of HT_.out (by kernel_rfl)) (fun _ _ _ h => h) (Or.inl ⟨by rfl, ?_⟩) ?_ ?_
        rotate_left
        ·intro w'
         go_simp
         with_reducible rfl
        rotate_left
        ·simp only [Act.put, sB, i64_w, i32_w]
         rfl
        refine done_ (done_of HT_.out (by kernel_rfl)) ?_
        have hcz39_0 : w38.cell? ⟨gb152, 0, none⟩ = some (.int .i64 ((rd_T97 x8_1 x10_1).f0)) := (blk_cell BK152.out 0).trans rfl
        have hcz39_1 : w38.cell? ⟨gb152, 1, none⟩ = some (.int .i64 ((rd_T97 x8_1 x10_1).f1)) := (blk_cell BK152.out 1).trans rfl
        have hcz39_2 : w38.cell? ⟨gb152, 2, none⟩ = some (.int .i64 ((rd_T97 x8_1 x10_1).f2)) := (blk_cell BK152.out 2).trans rfl
        have hcz39_3 : w38.cell? ⟨gb152, 3, none⟩ = some (.int .i64 ((rd_T97 x8_1 x10_1).f3)) := (blk_cell BK152.out 3).trans rfl
        have hfz39_0 := blk_frozen BK152.out 0
        have hfz39_1 := blk_frozen BK152.out 1
        have hfz39_2 := blk_frozen BK152.out 2
        have hfz39_3 := blk_frozen BK152.out 3
        try go_wp2_with (first | ((with_reducible refine gate_builtin (b := .append) (xs := #[.tmp 34, .tmp 36]) rfl ?_); at_builtin; refine Kd.R_append k97 (w0 := w) w.heap.size rfl (.tmp 34) (.tmp 36) 44 97 (.agg #[(.int .i64 0), (.int .i64 0), (.int .i64 0), (.int .i64 0)]) 32 rfl Try.underlying44 info97 rfl (by decide) (by omega) (.slice Ao36 x3_1.length co36) x3_1 (⟨(rd_T97 x8_1 x10_1).f0, (rd_T97 x8_1 x10_1).f1, (rd_T97 x8_1 x10_1).f2, (rd_T97 x8_1 x10_1).f3⟩ : S97) [.int .i64 ((rd_T97 x8_1 x10_1).f0), .int .i64 ((rd_T97 x8_1 x10_1).f1), .int .i64 ((rd_T97 x8_1 x10_1).f2), .int .i64 ((rd_T97 x8_1 x10_1).f3)] (fun k_ => some k_ ≠ (.slice (some ad151) x8_1.length co4 : Value).ownBlock ∧ k_ ≠ gb152) (fun _ => False) rfl rfl ?aP (fun _ hk => hk.elim) ?aF ?aO ?aB ?aS ?aL ?_; (case aP => exact k97_mkM _ _ _ (⟨(rd_T97 x8_1 x10_1).f0, (rd_T97 x8_1 x10_1).f1, (rd_T97 x8_1 x10_1).f2, (rd_T97 x8_1 x10_1).f3⟩ : S97)); (case aB => exact (by repeat (first | (with_reducible first | exact HB.out | apply wa | apply wn | apply wd | refine ws ?_ GE152.out) | exact HB.out))); (case aF => exact (fun k_ hk => ⟨Kd.fresh' (Kd.R_lt (by (with_reducible repeat (first | apply Kd.R_alloc | apply Kd.R_drewN | apply Kd.R_drew)); exact HO_8.out)) k_ hk, Kd.freshB (g := gb152) (o := .cells #[.int .i64 ((rd_T97 x8_1 x10_1).f0), .int .i64 ((rd_T97 x8_1 x10_1).f1), .int .i64 ((rd_T97 x8_1 x10_1).f2), .int .i64 ((rd_T97 x8_1 x10_1).f3)] 97 (0, 0)) (by (with_reducible repeat first | apply bn | apply bd | apply ba); exact BK152.out) k_ hk⟩)); (case aO => exact (by (with_reducible repeat (first | apply Kd.R_alloc | apply Kd.R_drewN | apply Kd.R_drew)); exact HO_3.out)); (case aS => exact (below_size (by repeat (first | (with_reducible first | exact HB.out | apply wa | apply wn | apply wd | refine ws ?_ GE152.out) | exact HB.out)))); (case aL => have := LMc33.out; omega); intro v160 w40 ho hb hg hat; rw [← Ny159.out] at ho; have n0_ := asd (Kd.R_after (ok := (fun k_ => k_ ≠ gb152)) (by (with_reducible repeat (first | apply Kd.R_alloc | apply Kd.R_drewN | apply Kd.R_drew)); exact Kd.R_mono HO_8.out (fun _ hk => ⟨hk.2, hk.1⟩)) hg hat); have n1_ := asd (blk_grown (g := gb152) (o := .cells #[.int .i64 ((rd_T97 x8_1 x10_1).f0), .int .i64 ((rd_T97 x8_1 x10_1).f1), .int .i64 ((rd_T97 x8_1 x10_1).f2), .int .i64 ((rd_T97 x8_1 x10_1).f3)] 97 (0, 0)) (by (with_reducible repeat first | apply bn | apply bd | apply ba); exact BK152.out) hg (Kd.R_away HO_3.out (fun _ hk => hk.2))); have n2_ := asd (hb); have n3_ := asd (ho); clear HO_8; clear BK152; clear HB; clear HO_3; have HO_8 := n0_; have BK152 := n1_; have HB := n2_; have HO161 := n3_; clear n0_ n1_ n2_ n3_; clear ho hb hg hat))
        (try simp only [← hl8_1])
        go_roundg k1
        case measure => have := HK1.out; omega
        case rel => exact ⟨(y159), (x8_1), (wrap64 (x10_1 + 1)), (by first | rfl | (simp; done) | (simp [*]; done)), H', ⟨by have := HK1.out; omega⟩, ⟨by (try simp only [hl8_1]); (with_reducible repeat (first | apply Kd.R_alloc | apply Kd.R_drewN | apply Kd.R_drew)); exact Kd.R_mono HO161.out (fun _ hk => hk.1)⟩, ⟨by (try simp only [hl8_1]); (with_reducible repeat (first | apply Kd.R_alloc | apply Kd.R_drewN | apply Kd.R_drew)); exact Kd.R_mono HO_8.out (fun _ hk => hk.2)⟩, ⟨by repeat (first | (with_reducible first | exact HB.out | apply wa | apply wn | apply wd | refine ws ?_ GE152.out) | exact HB.out)⟩⟩
       ·rw [if_neg c33] at H
        exact absurd H (by simp)
     ·rw [if_neg c7] at H
      exact absurd H (by simp)
    ·rw [if_neg c6] at H
     exact absurd H (by simp)
   ·rw [if_neg c5] at H
    have c5b0 : decide (x10_1 < (t148.length : Int)) = false := decide_eq_false c5
    have c5b1 : decide (x10_1 < (x8_1.length : Int)) = false := by simpa only [← hl8_1] using c5b0
    clear c5
    obtain rfl := Option.some.inj H
    go_wp2
    go_ret
    exact ⟨_, by first | rfl | (simp [*] <;> rfl), by (with_reducible repeat (first | apply Kd.R_alloc | apply Kd.R_drewN | apply Kd.R_drew)); exact Kd.R_mono HO_3.out (fun _ hk => trivial), by repeat (first | (with_reducible first | exact HB.out | apply wa | apply wn | apply wd) | exact HB.out)⟩
end Go.Proofs.Ytalimpniimgheaa.Fn
namespace Go.Proofs.Ytalimpniimgheaa.Fn
open Go.RowKit Go.Proofs.YtalimpniimgheaaW.PrintWords Go.Proofs.YtalimpniimgheaaW.PrintLast Go.Proofs.YtalimpniimgheaaW.PrintMore
attribute [local go_sem] max2_int min2_int max_two min_two max_three min_three max_four min_four
set_option linter.unusedVariables false
set_option linter.unusedSimpArgs false
mutual
def parcloseref35_Bars.l0 : Nat → List (S64) → List (S110) → Int → Option ((List (S110)))
 | 0, _, _, _ => none
 | k + 1, x0, x3, x4 => if x4 < (x0.length : Int) then (if 0 ≤ x4 then (if ((rd_T64 x0 x4).f1) = 3 then (if ((rd_T64 x0 x4).f0) < 0 then (parcloseref35_Bars.j1 k x0 x3 x4 true ((rd_T64 x0 x4).f0) ((rd_T64 x0 x4).f1) ((rd_T64 x0 x4).f2) ((rd_T64 x0 x4).f3)) else (parcloseref35_Bars.j1 k x0 x3 x4 (decide (((rd_T64 x0 x4).f0) ≥ 4611686018427387904)) ((rd_T64 x0 x4).f0) ((rd_T64 x0 x4).f1) ((rd_T64 x0 x4).f2) ((rd_T64 x0 x4).f3))) else (parcloseref35_Bars.j1 k x0 x3 x4 true ((rd_T64 x0 x4).f0) ((rd_T64 x0 x4).f1) ((rd_T64 x0 x4).f2) ((rd_T64 x0 x4).f3))) else (none)) else (some x3)
def parcloseref35_Bars.j1 : Nat → List (S64) → List (S110) → Int → Bool → Int → Int → Int → Int → Option ((List (S110)))
 | 0, _, _, _, _, _, _, _, _ => none
 | k + 1, x0, x3, x4, x29, x200000, x200001, x200002, x200003 => if x29 = true then (parcloseref35_Bars.l0 k x0 x3 (wrap64 (x4 + 1))) else (if (wrap64 ((x3.length : Int) - 1)) ≥ 0 then (if 0 ≤ (wrap64 ((x3.length : Int) - 1)) then (if (wrap64 ((x3.length : Int) - 1)) < (x3.length : Int) then (if ((rd_T110 x3 (wrap64 ((x3.length : Int) - 1))).f1) = x200000 then (if ((rd_T110 x3 (wrap64 ((x3.length : Int) - 1))).f2) = x200002 then (if ((rd_T110 x3 (wrap64 ((x3.length : Int) - 1))).f3) = x200003 then (parcloseref35_Bars.l0 k x0 (x3.set ((wrap64 ((x3.length : Int) - 1)) : Int).toNat (⟨(rd_T110 x3 (wrap64 ((x3.length : Int) - 1))).f0, wrap64 (x200000 + 1), (rd_T110 x3 (wrap64 ((x3.length : Int) - 1))).f2, (rd_T110 x3 (wrap64 ((x3.length : Int) - 1))).f3⟩ : S110)) (wrap64 (x4 + 1))) else (if x3.length < 4398046511104 then (parcloseref35_Bars.l0 k x0 (x3 ++ [(⟨x200000, wrap64 (x200000 + 1), x200002, x200003⟩ : S110)]) (wrap64 (x4 + 1))) else (none))) else (if x3.length < 4398046511104 then (parcloseref35_Bars.l0 k x0 (x3 ++ [(⟨x200000, wrap64 (x200000 + 1), x200002, x200003⟩ : S110)]) (wrap64 (x4 + 1))) else (none))) else (if x3.length < 4398046511104 then (parcloseref35_Bars.l0 k x0 (x3 ++ [(⟨x200000, wrap64 (x200000 + 1), x200002, x200003⟩ : S110)]) (wrap64 (x4 + 1))) else (none))) else (none)) else (none)) else (if x3.length < 4398046511104 then (parcloseref35_Bars.l0 k x0 (x3 ++ [(⟨x200000, wrap64 (x200000 + 1), x200002, x200003⟩ : S110)]) (wrap64 (x4 + 1))) else (none)))
end
def parcloseref35_Bars.f (k : Nat) (l0 : List (S64)) : Option ((List (S110))) := parcloseref35_Bars.l0 k l0 ([] : List (S110)) 0
end Go.Proofs.Ytalimpniimgheaa.Fn
namespace Go.Proofs.Ytalimpniimgheaa.Fn
open Go.RowKit Go.Proofs.YtalimpniimgheaaW.PrintWords Go.Proofs.YtalimpniimgheaaW.PrintLast Go.Proofs.YtalimpniimgheaaW.PrintMore
attribute [local go_sem] max2_int min2_int max_two min_two max_three min_three max_four min_four
set_option linter.unusedVariables false
set_option linter.unusedSimpArgs false
def parcloseref35_sign.j0 : Nat → Int → Bool → Option (Int)
 | 0, _, _ => none
 | k + 1, x0, x8 => if x8 = true then (some ((wrap64 (48 + x0)) % 256)) else (if x0 ≥ 100 then (some 115) else (some 63))
def parcloseref35_sign.f (k : Nat) (a0 : Int) : Option (Int) := if a0 ≥ 0 then (parcloseref35_sign.j0 k a0 (decide (a0 ≤ 9))) else (parcloseref35_sign.j0 k a0 false)
end Go.Proofs.Ytalimpniimgheaa.Fn
namespace Go.Proofs.Ytalimpniimgheaa.Fn
open Go.RowKit Go.Proofs.YtalimpniimgheaaW.PrintWords Go.Proofs.YtalimpniimgheaaW.PrintLast Go.Proofs.YtalimpniimgheaaW.PrintMore
attribute [local go_sem] max2_int min2_int max_two min_two max_three min_three max_four min_four
set_option linter.unusedVariables false
set_option linter.unusedSimpArgs false
mutual
def parcloseref35_Row.l0 : Nat → List (S64) → Int → Int → List Int → Int → Option (ByteArray)
 | 0, _, _, _, _, _ => none
 | k + 1, x0, x1, x2, x7, x8 => if x8 < 400 then (parcloseref35_Row.j1 k x0 x1 x2 x7 x8 (decide (x1 < (wrap64 (x2 - x8))))) else (parcloseref35_Row.j1 k x0 x1 x2 x7 x8 false)
def parcloseref35_Row.j1 : Nat → List (S64) → Int → Int → List Int → Int → Bool → Option (ByteArray)
 | 0, _, _, _, _, _, _ => none
 | k + 1, x0, x1, x2, x7, x8, x21 => if x21 = true then (parcloseref35_Row.l1 k x0 x1 x2 x7 x8 46 0) else (some (strOfNums x7))
def parcloseref35_Row.l1 : Nat → List (S64) → Int → Int → List Int → Int → Int → Int → Option (ByteArray)
 | 0, _, _, _, _, _, _, _ => none
 | k + 1, x0, x1, x2, x7, x8, x9, x10 => if x10 < (x0.length : Int) then (if 0 ≤ x10 then (if ((rd_T64 x0 x10).f1) = 3 then (if ((rd_T64 x0 x10).f0) ≥ x1 then (if (wrap64 (((rd_T64 x0 x10).f0) - x1)) = x8 then ((parcloseref35_sign.f k ((rd_T64 x0 x10).f2)).bind fun t220 => (parcloseref35_Row.l1 k x0 x1 x2 x7 x8 t220 (wrap64 (x10 + 1)))) else (parcloseref35_Row.l1 k x0 x1 x2 x7 x8 x9 (wrap64 (x10 + 1)))) else (parcloseref35_Row.l1 k x0 x1 x2 x7 x8 x9 (wrap64 (x10 + 1)))) else (parcloseref35_Row.l1 k x0 x1 x2 x7 x8 x9 (wrap64 (x10 + 1)))) else (none)) else (if x7.length < 140737488355328 then (parcloseref35_Row.l0 k x0 x1 x2 (x7 ++ [x9]) (wrap64 (x8 + 1))) else (none))
end
def parcloseref35_Row.f (k : Nat) (l0 : List (S64)) (a1 : Int) (a2 : Int) : Option (ByteArray) := if a1 < 0 then (some (⟨#[]⟩ : ByteArray)) else (parcloseref35_Row.l0 k l0 a1 a2 ([] : List Int) 0)
end Go.Proofs.Ytalimpniimgheaa.Fn
namespace Go.Proofs.Ytalimpniimgheaa.Fn
open Go.RowKit Go.Proofs.YtalimpniimgheaaW.PrintWords Go.Proofs.YtalimpniimgheaaW.PrintLast Go.Proofs.YtalimpniimgheaaW.PrintMore
attribute [local go_sem] max2_int min2_int max_two min_two max_three min_three max_four min_four
set_option linter.unusedVariables false
set_option linter.unusedSimpArgs false
theorem eqA110 (d : Nat) (w : World) (x0 y0 : Int) (x1 y1 : Int) (x2 y2 : Int) (x3 y3 : Int) :
  (Op.equalIn (d + 2) 110 (.agg #[.int .i64 x0, .int .i64 x1, .int .i64 x2, .int .i64 x3]) (.agg #[.int .i64 y0, .int .i64 y1, .int .i64 y2, .int .i64 y3])).run Try.prog w = .ok (x0 == y0 && (x1 == y1 && (x2 == y2 && (x3 == y3)))) w := by
 refine eqA_of Try.underlying110 (by kernel_rfl) ?_
 refine eqf_cons (by rfl) (by go_simp; rfl) (by go_simp; rfl) (by go_simp) ?_
 refine eqf_cons (by rfl) (by go_simp; rfl) (by go_simp; rfl) (by go_simp) ?_
 refine eqf_cons (by rfl) (by go_simp; rfl) (by go_simp; rfl) (by go_simp) ?_
 exact eqf_last (by rfl) (by go_simp; rfl) (by go_simp; rfl) (by go_simp)
end Go.Proofs.Ytalimpniimgheaa.Fn
namespace Go.Proofs.Ytalimpniimgheaa.Fn
open Go.RowKit Go.Proofs.YtalimpniimgheaaW.PrintWords Go.Proofs.YtalimpniimgheaaW.PrintLast Go.Proofs.YtalimpniimgheaaW.PrintMore
attribute [local go_sem] max2_int min2_int max_two min_two max_three min_three max_four min_four
set_option linter.unusedVariables false
set_option linter.unusedSimpArgs false
attribute [local go_sem high] eqA110
def parcloselaw35_bars.l0 : Nat → List (S97) → List (S110) → Int → Option (Bool)
 | 0, _, _, _ => none
 | k + 1, x0, x1, x5 => if x5 < (x0.length : Int) then (if 0 ≤ x5 then (if x5 < (x1.length : Int) then (if (!(((rd_T97 x0 x5).f0) == ((rd_T110 x1 x5).f0)) || (!(((rd_T97 x0 x5).f1) == ((rd_T110 x1 x5).f1)) || (!(((rd_T97 x0 x5).f2) == ((rd_T110 x1 x5).f2)) || (!(((rd_T97 x0 x5).f3) == ((rd_T110 x1 x5).f3)))))) = true then (some false) else (parcloselaw35_bars.l0 k x0 x1 (wrap64 (x5 + 1)))) else (none)) else (none)) else (some true)
def parcloselaw35_bars.f (k : Nat) (l0 : List (S97)) (l1 : List (S110)) : Option (Bool) := if (l0.length : Int) = (l1.length : Int) then (parcloselaw35_bars.l0 k l0 l1 0) else (some false)
end Go.Proofs.Ytalimpniimgheaa.Fn
namespace Go.Proofs.Ytalimpniimgheaa.Fn
open Go.RowKit Go.Proofs.YtalimpniimgheaaW.PrintWords Go.Proofs.YtalimpniimgheaaW.PrintLast Go.Proofs.YtalimpniimgheaaW.PrintMore
attribute [local go_sem] max2_int min2_int max_two min_two max_three min_three max_four min_four
set_option linter.unusedVariables false
set_option linter.unusedSimpArgs false
def parcloselaw35_ran.l0 : Nat → List Int → List (S65) → Int → Option ((List (S65)))
 | 0, _, _, _ => none
 | k + 1, x0, x3, x4 => if x4 < (x0.length : Int) then (if 0 ≤ x4 then (if x3.length < 4398046511104 then (parcloselaw35_ran.l0 k x0 (x3 ++ [(⟨rd x0 x4, 3, 1, 0⟩ : S65)]) (wrap64 (x4 + 1))) else (none)) else (none)) else (some x3)
def parcloselaw35_ran.f (k : Nat) (l0 : List Int) : Option ((List (S65))) := parcloselaw35_ran.l0 k l0 ([] : List (S65)) 0
set_option maxHeartbeats 8000000 in
set_option maxRecDepth 100000 in
theorem parcloselaw35_ran.calls (k : Nat) (A0 : Option Addr) (c0 : Nat) (l0 : List Int) (r : List (S65)) (w : World) (hr0 : Kd.C (Kd.int .i64) w A0 l0.length l0) (hc0 : l0.length ≤ c0) (h : parcloselaw35_ran.f k l0 = some r) :
  Calls Try.prog 71 #[.slice A0 l0.length c0] w fun e w' => ∃ v0_ : Value, e = .returned (v0_) ∧ Kd.R k65 65 w' w.heap.size (fun _ => True) v0_ r ∧ Below w.heap.size w w' := by
 have hu65 := Try.underlying65
 have HR0 := asd hr0
 have HC0 := asd hc0
 clear hr0 hc0
 have HB := asd (Below.refl w.heap.size w)
 have H : (parcloselaw35_ran.l0 k l0 ([] : List (S65)) 0) = some r := h
 clear h
 have H' := asd H
 clear H
 go_enter Try.func71, Try.ntmps71
 go_wp2
 go_loopg [3, 4] k (fun kq v3 v4 w' => ∃ (x3_1 : List (S65)) (x4_1 : Int), v4 = .int .i64 x4_1 ∧ Aside0 (parcloselaw35_ran.l0 kq l0 x3_1 x4_1 = some r) ∧ Aside0 (kq ≤ k) ∧ Aside0 (Kd.R k65 65 w' w.heap.size (fun _ => True) v3 x3_1) ∧ Aside0 (Below w.heap.size w w'))
 case atStart => exact ⟨(([] : List (S65))), (0), (by first | rfl | (simp; done) | (simp [*]; done)), H', ⟨Nat.le_refl _⟩, ⟨by first | exact Kd.R_nil _ _ _ _ _ | exact Kd.N_nil _ _ _ _ _ | exact Kd.V_nil _ _ _ _ _ | exact Kd.Q_nil _ _ _ _ _ | exact Kd.S_nil _ _ _ _ _⟩, ⟨by repeat (first | (with_reducible first | exact HB.out | apply wa | apply wn | apply wd) | exact HB.out)⟩⟩
 case round =>
  clear H'
  obtain ⟨x3_1, x4_1, rfl, HA, HK1, HO_3, HB⟩ := hrel
  cases gk with
  | zero => exact absurd HA.out (by simp [parcloselaw35_ran.l0])
  | succ k1 =>
   have H := HA.out
   clear HA
   simp only [parcloselaw35_ran.l0] at H
   by_cases c2 : x4_1 < (l0.length : Int)
   ·rw [if_pos c2] at H
    have c2b0 : decide (x4_1 < (l0.length : Int)) = true := decide_eq_true c2
    clear c2
    by_cases c3 : 0 ≤ x4_1
    ·rw [if_pos c3] at H
     have c3b0 : decide (0 ≤ x4_1) = true := decide_eq_true c3
     clear c3
     by_cases c4 : x3_1.length < 4398046511104
     ·rw [if_pos c4] at H
      have LMc4 := asd c4
      clear c4
      obtain ⟨y173, hy173⟩ : ∃ y_ : List (S65), y_ = (x3_1 ++ [(⟨rd l0 x4_1, 3, 1, 0⟩ : S65)]) := ⟨_, rfl⟩
      replace H : (parcloselaw35_ran.l0 k1 l0 y173 (wrap64 (x4_1 + 1))) = some r := by first | (rw [hy173]; with_reducible exact H) | (have H2_ := (Option.bind_some _ _).symm.trans H; rw [hy173]; with_reducible exact H2_) | (have H2_ := (Option.bind_some _ _).symm.trans H; with_reducible exact H2_) | with_reducible exact H | (rw [hy173]; exact H) | exact H
      have Ny173 := asd hy173
      clear hy173
      have H' := asd H
      clear H
      have p172 : 0 ≤ (x4_1 : Int) := of_decide_eq_true (by assumption)
      have q172 : x4_1 < (l0.length : Int) := of_decide_eq_true (by assumption)
      obtain ⟨ad172, e172, hx172_0⟩ := Kd.at_int HR0.out x4_1 p172 q172
      cases e172
      replace hx172_0 := (HB.out.cell (World.block_lt_of_cell? w _ hx172_0)).trans hx172_0
      replace p172 := eq_true p172
      replace q172 := eq_true q172
      go_wp2_with (first | ((with_reducible refine gate_builtin (b := .append) (xs := #[.tmp 11, .tmp 17]) rfl ?_); at_builtin; refine Kd.R_append k65 (w0 := w) w.heap.size rfl (.tmp 11) (.tmp 17) 31 65 (.agg #[(.int .i64 0), (.int .i64 0), (.int .i64 0), (.int .i64 0)]) 32 rfl Try.underlying31 info65 rfl (by decide) (by omega) u3 x3_1 (⟨rd l0 x4_1, 3, 1, 0⟩ : S65) [.int .i64 (rd l0 x4_1), .int .i64 3, .int .i64 1, .int .i64 0] (fun _ => True) (fun _ => False) rfl rfl ?aP (fun _ hk => hk.elim) ?aF ?aO ?aB ?aS ?aL ?_; (case aP => exact k65_mkM _ _ _ (⟨rd l0 x4_1, 3, 1, 0⟩ : S65)); (case aB => exact (by repeat (first | (with_reducible first | exact HB.out | apply wa | apply wn | apply wd) | exact HB.out))); (case aF => exact (fun _ _ => trivial)); (case aO => exact (by (with_reducible repeat (first | apply Kd.R_alloc | apply Kd.R_drewN | apply Kd.R_drew)); exact HO_3.out)); (case aS => exact (below_size (by repeat (first | (with_reducible first | exact HB.out | apply wa | apply wn | apply wd) | exact HB.out)))); (case aL => have := LMc4.out; omega); intro v174 w5 ho hb hg hat; rw [← Ny173.out] at ho; have n0_ := asd (hb); have n1_ := asd (ho); clear HB; clear HO_3; have HB := n0_; have HO175 := n1_; clear n0_ n1_; clear ho hb hg hat))
      go_roundg k1
      case measure => have := HK1.out; omega
      case rel => exact ⟨(y173), (wrap64 (x4_1 + 1)), (by first | rfl | (simp; done) | (simp [*]; done)), H', ⟨by have := HK1.out; omega⟩, ⟨by (with_reducible repeat (first | apply Kd.R_alloc | apply Kd.R_drewN | apply Kd.R_drew)); exact HO175.out⟩, ⟨by repeat (first | (with_reducible first | exact HB.out | apply wa | apply wn | apply wd) | exact HB.out)⟩⟩
     ·rw [if_neg c4] at H
      exact absurd H (by simp)
    ·rw [if_neg c3] at H
     exact absurd H (by simp)
   ·rw [if_neg c2] at H
    have c2b0 : decide (x4_1 < (l0.length : Int)) = false := decide_eq_false c2
    clear c2
    obtain rfl := Option.some.inj H
    go_wp2
    go_ret
    exact ⟨_, by first | rfl | (simp [*] <;> rfl), by (with_reducible repeat (first | apply Kd.R_alloc | apply Kd.R_drewN | apply Kd.R_drew)); exact HO_3.out, by repeat (first | (with_reducible first | exact HB.out | apply wa | apply wn | apply wd) | exact HB.out)⟩
end Go.Proofs.Ytalimpniimgheaa.Fn
namespace Go.Proofs.Ytalimpniimgheaa.Fn
open Go.RowKit Go.Proofs.YtalimpniimgheaaW.PrintWords Go.Proofs.YtalimpniimgheaaW.PrintLast Go.Proofs.YtalimpniimgheaaW.PrintMore
set_option linter.unusedVariables false
set_option linter.unusedSimpArgs false
theorem rd65 (l : List S65) (x : Nat) : rd_T65 l (x : Int) = l.getD x z65 := by unfold rd_T65; rw [Int.toNat_natCast]
theorem rd97 (l : List S97) (x : Nat) : rd_T97 l (x : Int) = l.getD x z97 := by unfold rd_T97; rw [Int.toNat_natCast]
theorem drop_one {α : Type} (l : List α) (z : α) (x : Nat) (h : x < l.length) : l.drop x = l.getD x z :: l.drop (x + 1) := by rw [getD_lt l z h]; exact List.drop_eq_getElem_cons h
theorem w1 (x : Nat) (h : x ≤ 1000000) : wrap64 ((x : Int) + 1) = ((x + 1 : Nat) : Int) := by unfold wrap64; omega
def at1 (f j : Int) (c : Int) (e : S64) : Int := if e.f1 = 3 ∧ f ≤ e.f0 ∧ e.f0 - f = j then sgn e.f2 else c
def inI (e : S64) : Prop := -9223372036854775808 ≤ e.f0 ∧ e.f0 ≤ 9223372036854775807
def rowN (f t : Int) : Nat := if f < 0 ∨ t ≤ f then 0 else (mn (t - f) 400).toNat
def rrowOf (f t : Int) (xs : List S64) : List Int := (List.range' 0 (rowN f t)).map fun j => xs.foldl (at1 f (j : Nat)) 46
theorem paints_map (f : Int) (N : Nat) (es : List S65) : ∀ (g : Nat → Int), es.foldl (paint f N) ((List.range' 0 N).map g) = (List.range' 0 N).map fun j => es.foldl (fun c e => at1 f (j : Nat) c (toR e)) (g j) := by
 induction es with
 | nil => intro g; rfl
 | cons e r ih =>
  intro g
  simp only [List.foldl_cons]
  have h : paint f N ((List.range' 0 N).map g) e = (List.range' 0 N).map fun j => at1 f (j : Nat) (g j) (toR e) := by
   unfold paint at1 toR
   by_cases c : e.f1 = 3 ∧ f ≤ e.f0 ∧ e.f0 - f < (N : Int)
   ·rw [if_pos c]
    refine List.ext_getElem (by simp) (fun i h1 h2 => ?_)
    simp only [List.getElem_set, List.getElem_map, List.getElem_range']
    by_cases hi : (e.f0 - f).toNat = i
    ·rw [if_pos hi, if_pos ⟨c.1, c.2.1, by omega⟩]
    ·rw [if_neg hi, if_neg (fun q => hi (by have h2 : e.f0 - f = _ := q.2.2; omega))]
   ·rw [if_neg c]
    refine List.map_congr_left (fun j hj => ?_)
    rw [if_neg (fun q => c ⟨q.1, q.2.1, by have h2 : e.f0 - f = (j : Int) := q.2.2; simp [List.mem_range'] at hj; omega⟩)]
  rw [h, ih]
theorem rowOf_eq (f t : Int) (xs : List S64) : rowOf f t (xs.map toE) = rrowOf f t xs := by
 unfold rowOf rrowOf rowN
 by_cases h : f < 0 ∨ t ≤ f
 ·rw [if_pos h, if_pos h]; rfl
 ·rw [if_neg h, if_neg h]
  have hm : mn (t - f) 400 = ((mn (t - f) 400).toNat : Int) := by unfold mn; split <;> omega
  rw [show List.replicate (mn (t - f) 400).toNat (46 : Int) = (List.range' 0 (mn (t - f) 400).toNat).map (fun _ => (46 : Int)) by rw [List.map_const', List.length_range']]
  rw [hm, Int.toNat_natCast, paints_map]
  refine List.map_congr_left (fun j _ => ?_)
  rw [List.foldl_map]
  rfl
def toB (b : S110) : S97 := ⟨b.f0, b.f1, b.f2, b.f3⟩
def okE (e : S64) : Prop := e.f1 = 3 ∧ 0 ≤ e.f0 ∧ e.f0 < 4611686018427387904
instance (e : S64) : Decidable (okE e) := by unfold okE; infer_instance
def addBar (out : List S110) (x : S110) : List S110 := if out ≠ [] ∧ (out.getD (out.length - 1) z110).f1 = x.f0 ∧ (out.getD (out.length - 1) z110).f2 = x.f2 ∧ (out.getD (out.length - 1) z110).f3 = x.f3 then out.set (out.length - 1) ⟨(out.getD (out.length - 1) z110).f0, x.f1, (out.getD (out.length - 1) z110).f2, (out.getD (out.length - 1) z110).f3⟩ else out ++ [x]
def barE (e : S64) : S110 := ⟨e.f0, e.f0 + 1, e.f2, e.f3⟩
def stepBar (out : List S110) (e : S64) : List S110 := if okE e then addBar out (barE e) else out
theorem step_no {acc : List S110} {x : S64} (h : ¬ okE x) : stepBar acc x = acc := if_neg h
theorem step_yes {acc : List S110} {x : S64} (h : okE x) : stepBar acc x = addBar acc (barE x) := if_pos h
theorem addBar_le (out : List S110) (x : S110) : (addBar out x).length ≤ out.length + 1 := by unfold addBar; split <;> simp
def barsOf (xs : List S64) : List S110 := xs.foldl stepBar []
end Go.Proofs.Ytalimpniimgheaa.Fn
namespace Go.Proofs.Ytalimpniimgheaa.Fn
open Go.RowKit Go.Proofs.YtalimpniimgheaaW.PrintWords Go.Proofs.YtalimpniimgheaaW.PrintLast Go.Proofs.YtalimpniimgheaaW.PrintMore
attribute [local go_sem] max2_int min2_int max_two min_two max_three min_three max_four min_four
set_option linter.unusedVariables false
set_option linter.unusedSimpArgs false
def parcloselaw35_owns.l0 : Nat → List (S64) → List (S65) → Int → Option ((List (S65)))
 | 0, _, _, _ => none
 | k + 1, x0, x3, x4 => if x4 < (x0.length : Int) then (if 0 ≤ x4 then (if x3.length < 4398046511104 then (parcloselaw35_owns.l0 k x0 (x3 ++ [(⟨(rd_T64 x0 x4).f0, (rd_T64 x0 x4).f1, (rd_T64 x0 x4).f2, (rd_T64 x0 x4).f3⟩ : S65)]) (wrap64 (x4 + 1))) else (none)) else (none)) else (some x3)
def parcloselaw35_owns.f (k : Nat) (l0 : List (S64)) : Option ((List (S65))) := parcloselaw35_owns.l0 k l0 ([] : List (S65)) 0
end Go.Proofs.Ytalimpniimgheaa.Fn
namespace Go.Proofs.Ytalimpniimgheaa.Fn
open Go.RowKit Go.Proofs.YtalimpniimgheaaW.PrintWords Go.Proofs.YtalimpniimgheaaW.PrintLast Go.Proofs.YtalimpniimgheaaW.PrintMore
set_option linter.unusedVariables false
set_option linter.unusedSimpArgs false
attribute [local go_sem] max2_mx min2_mn max_two min_two
theorem rdm65 (es : List S64) (x : Nat) (h : x < es.length) : rd_T65 (es.map toE) (x : Int) = toE (es.getD x z64) := by
 rw [rd65, getD_lt _ _ (by rw [List.length_map]; exact h), List.getElem_map, getD_lt _ _ h]
theorem rdm97 (ts : List S110) (x : Nat) (h : x < ts.length) : rd_T97 (ts.map toB) (x : Int) = toB (ts.getD x z110) := by
 rw [rd97, getD_lt _ _ (by rw [List.length_map]; exact h), List.getElem_map, getD_lt _ _ h]
theorem rans_l0 (es : List S64) (hl : es.length ≤ 1000) : ∀ (m i : Nat) (acc : List S97), i + m = es.length → acc.length ≤ i → Ev (fun k => gantt_rans.l0 k acc (es.map toE) (es.length : Int) (i : Int)) (acc ++ ((es.drop i).filter (fun e => decide (okE e))).map (fun e => toB (barE e))) := by
 intro m
 induction m with
 | zero =>
  intro i acc hi ha
  rw [List.drop_of_length_le (by omega)]
  simp only [List.filter_nil, List.map_nil, List.append_nil]
  exact Ev.step (f := fun _ => some acc) (fun k => by simp only [gantt_rans.l0]; rw [if_neg (by omega)]) (Ev.now _)
 | succ m ih =>
  intro i acc hi ha
  have hlt : i < es.length := by omega
  rw [drop_one es z64 i hlt, List.filter_cons]
  have rx := rdm65 es i hlt
  generalize es.getD i z64 = x at rx
  have f0 : (toE x).f0 = x.f0 := rfl
  have f1 : (toE x).f1 = x.f1 := rfl
  have f2 : (toE x).f2 = x.f2 := rfl
  have f3 : (toE x).f3 = x.f3 := rfl
  by_cases c1 : x.f1 = 3
  ·by_cases c2 : x.f0 ≥ 0
   ·by_cases c3 : x.f0 < 4611686018427387904
    ·have hw : wrap64 (x.f0 + 1) = x.f0 + 1 := by unfold wrap64; omega
     rw [if_pos (decide_eq_true (show okE x from ⟨c1, by omega, c3⟩)), List.map_cons]
     have h := ih (i + 1) (acc ++ [toB (barE x)]) (by omega) (by simp; omega)
     rw [List.append_assoc] at h
     refine Ev.step (f := fun k => gantt_rans.l0 k (acc ++ [toB (barE x)]) (es.map toE) (es.length : Int) ((i + 1 : Nat) : Int)) (fun k => by
      simp only [gantt_rans.l0]
      rw [if_pos (by omega), if_pos (by omega), if_pos (by rw [List.length_map]; omega), rx, f0, f1, f2, f3, if_pos c1, if_pos c2, if_pos c3, if_pos (by omega), hw, w1 i (by omega)]
      rfl) h
    ·rw [if_neg (by simp only [decide_eq_true_eq]; unfold okE; omega)]
     refine Ev.step (f := fun k => gantt_rans.l0 k acc (es.map toE) (es.length : Int) ((i + 1 : Nat) : Int)) (fun k => by
      simp only [gantt_rans.l0]
      rw [if_pos (by omega), if_pos (by omega), if_pos (by rw [List.length_map]; omega), rx, f0, f1, if_pos c1, if_pos c2, if_neg c3, w1 i (by omega)]) (ih (i + 1) acc (by omega) (by omega))
   ·rw [if_neg (by simp only [decide_eq_true_eq]; unfold okE; omega)]
    refine Ev.step (f := fun k => gantt_rans.l0 k acc (es.map toE) (es.length : Int) ((i + 1 : Nat) : Int)) (fun k => by
     simp only [gantt_rans.l0]
     rw [if_pos (by omega), if_pos (by omega), if_pos (by rw [List.length_map]; omega), rx, f0, f1, if_pos c1, if_neg c2, w1 i (by omega)]) (ih (i + 1) acc (by omega) (by omega))
  ·rw [if_neg (by simp only [decide_eq_true_eq]; unfold okE; omega)]
   refine Ev.step (f := fun k => gantt_rans.l0 k acc (es.map toE) (es.length : Int) ((i + 1 : Nat) : Int)) (fun k => by
    simp only [gantt_rans.l0]
    rw [if_pos (by omega), if_pos (by omega), if_pos (by rw [List.length_map]; omega), rx, f1, if_neg c1, w1 i (by omega)]) (ih (i + 1) acc (by omega) (by omega))
theorem gbars_l0 (ts : List S110) (hl : ts.length ≤ 1000) : ∀ (m i : Nat) (acc : List S110), i + m = ts.length → acc.length ≤ i → Ev (fun k => gantt_Bars.l0 k (acc.map toB) (ts.map toB) (ts.length : Int) (i : Int)) (((ts.drop i).foldl addBar acc).map toB) := by
 intro m
 induction m with
 | zero =>
  intro i acc hi ha
  rw [List.drop_of_length_le (by omega)]
  exact Ev.step (f := fun _ => some (acc.map toB)) (fun k => by simp only [gantt_Bars.l0]; rw [if_neg (by omega)]) (Ev.now _)
 | succ m ih =>
  intro i acc hi ha
  have hlt : i < ts.length := by omega
  rw [drop_one ts z110 i hlt, List.foldl_cons]
  have rx := rdm97 ts i hlt
  generalize ts.getD i z110 = x at rx
  have h := ih (i + 1) (addBar acc x) (by omega) (by have := addBar_le acc x; omega)
  have hnew : ∀ (q : addBar acc x = acc ++ [x]), Ev (fun k => if (acc.map toB).length < 4398046511104 then gantt_Bars.l0 k (acc.map toB ++ [(⟨(toB x).f0, (toB x).f1, (toB x).f2, (toB x).f3⟩ : S97)]) (ts.map toB) (ts.length : Int) (wrap64 ((i : Int) + 1)) else none) (((ts.drop (i + 1)).foldl addBar (addBar acc x)).map toB) := by
   intro q
   refine Ev.congr (f := fun k => gantt_Bars.l0 k ((addBar acc x).map toB) (ts.map toB) (ts.length : Int) ((i + 1 : Nat) : Int)) (fun k => ?_) h
   rw [if_pos (by rw [List.length_map]; omega), w1 i (by omega), q, List.map_append]
   rfl
  by_cases c4 : acc = []
  ·have q : addBar acc x = acc ++ [x] := by unfold addBar; rw [if_neg (fun q => q.1 c4)]
   refine Ev.step (f := _) (fun k => by
    simp only [gantt_Bars.l0]
    rw [if_pos (by omega), if_pos (by omega), if_pos (by rw [List.length_map]; omega), rx, if_neg (by subst c4; simp)]) (hnew q)
  ·have hp : 0 < acc.length := List.length_pos_iff.2 c4
   have hk : wrap64 (((acc.map toB).length : Int) - 1) = ((acc.length - 1 : Nat) : Int) := by rw [List.length_map]; unfold wrap64; omega
   have rl := rdm97 acc (acc.length - 1) (by omega)
   generalize hL : acc.getD (acc.length - 1) z110 = L at rl
   have l0 : (toB L).f0 = L.f0 := rfl
   have l1 : (toB L).f1 = L.f1 := rfl
   have l2 : (toB L).f2 = L.f2 := rfl
   have l3 : (toB L).f3 = L.f3 := rfl
   have x0 : (toB x).f0 = x.f0 := rfl
   have x1 : (toB x).f1 = x.f1 := rfl
   have x2 : (toB x).f2 = x.f2 := rfl
   have x3 : (toB x).f3 = x.f3 := rfl
   have hg : gantt_Bar_grows.f L.f0 L.f1 L.f2 L.f3 x.f0 x.f1 x.f2 x.f3 = some (decide (L.f1 = x.f0 ∧ L.f2 = x.f2 ∧ L.f3 = x.f3)) := by
    unfold gantt_Bar_grows.f
    by_cases c5 : L.f1 = x.f0
    ·by_cases c6 : L.f2 = x.f2
     ·rw [if_pos c5, if_pos c6]; simp [c5, c6]; rfl
     ·rw [if_pos c5, if_neg c6]; simp [c6]
    ·rw [if_neg c5]; simp [c5]
   by_cases c : L.f1 = x.f0 ∧ L.f2 = x.f2 ∧ L.f3 = x.f3
   ·have q : addBar acc x = acc.set (acc.length - 1) ⟨L.f0, x.f1, L.f2, L.f3⟩ := by unfold addBar; rw [hL, if_pos ⟨c4, c⟩]
    refine Ev.step (f := fun k => gantt_Bars.l0 k ((addBar acc x).map toB) (ts.map toB) (ts.length : Int) ((i + 1 : Nat) : Int)) (fun k => by
     simp only [gantt_Bars.l0]
     rw [if_pos (by omega), if_pos (by omega), if_pos (by rw [List.length_map]; omega), rx, if_pos (by rw [List.length_map]; omega), hk, if_pos (by omega), if_pos (by rw [List.length_map]; omega), rl, l0, l1, l2, l3, x0, x1, x2, x3, hg, Option.bind_some, decide_eq_true c, if_pos rfl, w1 i (by omega), q, Int.toNat_natCast, List.map_set]
     rfl) h
   ·have q : addBar acc x = acc ++ [x] := by unfold addBar; rw [hL, if_neg (fun q => c q.2)]
    refine Ev.step (f := _) (fun k => by
     simp only [gantt_Bars.l0]
     rw [if_pos (by omega), if_pos (by omega), if_pos (by rw [List.length_map]; omega), rx, if_pos (by rw [List.length_map]; omega), hk, if_pos (by omega), if_pos (by rw [List.length_map]; omega), rl, l0, l1, l2, l3, x0, x1, x2, x3, hg, Option.bind_some, decide_eq_false c, if_neg (by decide)]) (hnew q)
theorem fold_step (es : List S64) : ∀ acc, es.foldl stepBar acc = ((es.filter (fun e => decide (okE e))).map barE).foldl addBar acc := by
 induction es with
 | nil => intro acc; rfl
 | cons e r ih =>
  intro acc
  rw [List.foldl_cons, ih, List.filter_cons]
  by_cases h : okE e
  ·rw [if_pos (decide_eq_true h), List.map_cons, List.foldl_cons, step_yes h]
  ·rw [if_neg (by simpa using h), step_no h]
theorem gbars_f (es : List S64) (hl : es.length ≤ 1000) : ∃ k, gantt_Bars.f k (es.map toE) = some ((barsOf es).map toB) := by
 have h1 := rans_l0 es hl es.length 0 [] (by omega) (by simp)
 simp only [List.drop_zero, List.nil_append] at h1
 have hle := List.length_filter_le (fun e => decide (okE e)) es
 have h2 := gbars_l0 ((es.filter (fun e => decide (okE e))).map barE) (by rw [List.length_map]; omega) _ 0 [] (Nat.zero_add _) (by simp)
 simp only [List.drop_zero, List.map_nil] at h2
 rw [← fold_step] at h2
 have e : ((es.filter (fun e => decide (okE e))).map barE).map toB = (es.filter (fun e => decide (okE e))).map (fun e => toB (barE e)) := by rw [List.map_map]; rfl
 have h3 : Ev (fun k => gantt_Bars.f k (es.map toE)) ((barsOf es).map toB) := by
  refine Ev.congr (f := fun k => (gantt_rans.l0 k [] (es.map toE) (es.length : Int) ((0 : Nat) : Int)).bind fun t148 => gantt_Bars.l0 k ([] : List S97) t148 (t148.length : Int) 0) (fun k => by unfold gantt_Bars.f gantt_rans.f; rw [List.length_map]; rfl) ?_
  refine Ev.bind (f := fun k t148 => gantt_Bars.l0 k ([] : List S97) t148 (t148.length : Int) 0) h1 ?_
  rw [← e, List.length_map]
  exact h2
 exact h3.rounds
end Go.Proofs.Ytalimpniimgheaa.Fn
namespace Go.Proofs.Ytalimpniimgheaa.Fn
open Go.RowKit Go.Proofs.YtalimpniimgheaaW.PrintWords Go.Proofs.YtalimpniimgheaaW.PrintLast Go.Proofs.YtalimpniimgheaaW.PrintMore
set_option linter.unusedVariables false
set_option linter.unusedSimpArgs false
attribute [local go_sem] max2_mx min2_mn max_two min_two
section
variable {E E' : Option Addr} {c c' : Nat} (w : World) (es : List S64)
theorem gbars_calls (h : k65.C w E es.length (es.map toE)) (hc : es.length ≤ c) (hl : es.length ≤ 1000) :
  Calls Try.prog 29 #[.slice E es.length c] w fun e w' => ∃ A' c', e = .returned (.slice A' (barsOf es).length c') ∧ (k97.C w' A' (barsOf es).length ((barsOf es).map toB) ∧ (barsOf es).length ≤ c' ∧ ∀ ad, A' = some ad → ∃ g, ad = ⟨g, 0, none⟩) ∧ Below w.heap.size w w' := by
 obtain ⟨k, hk⟩ := gbars_f es hl
 have h0 := gantt_Bars.calls k E c (es.map toE) _ w (by rw [List.length_map]; exact h) (by rw [List.length_map]; exact hc) hk
 rw [List.length_map] at h0
 refine h0.mono ?_
 rintro e w' ⟨v, rfl, ho, hb⟩
 obtain ⟨A', c', rfl⟩ := Kd.R_slice ho
 have h1 := C_ofR ho
 have h3 : ∀ ad, A' = some ad → ∃ g, ad = ⟨g, 0, none⟩ := by rintro ad rfl; exact Kd.R_head ho
 have h2 := (Kd.R_reads' ho).2.1
 rw [List.length_map] at h1 h2 ⊢
 exact ⟨A', c', rfl, ⟨h1, h2, h3⟩, hb⟩
theorem grow_calls (f t : Int) (h : k65.C w E es.length (es.map toE)) (hl : es.length ≤ 1000) (hw : ∀ e ∈ es, inI e) (hf : -9223372036854775808 ≤ f ∧ f ≤ 9223372036854775807) (ht : -9223372036854775808 ≤ t ∧ t ≤ 9223372036854775807) :
  Calls Try.prog 32 #[.slice E es.length c, .int .i64 f, .int .i64 t] w fun e w' => e = .returned (.string (strOfNums (rrowOf f t es))) ∧ Below w.heap.size w w' := by
 have h0 := row_calls E c (es.map toE) f t w (by rw [List.length_map]; exact h) (by rw [List.length_map]; omega) (fun e he => by
  obtain ⟨x, hx, rfl⟩ := List.mem_map.1 he
  exact hw x hx) hf ht
 rw [List.length_map, rowOf_eq] at h0
 exact h0
end
def eK : List S64 := [⟨3, 3, 1, 0⟩, ⟨4, 3, 1, 0⟩, ⟨6, 3, 1, 0⟩]
theorem ran_f : parcloselaw35_ran.f 10 [3, 4, 6] = some (eK.map toE) := by decide +kernel
theorem bars_K : barsOf eK = [⟨3, 5, 1, 0⟩, ⟨6, 7, 1, 0⟩] := by rfl
theorem row_K : strOfNums (rrowOf 2 8 eK) = ⟨#[46, 49, 49, 46, 49, 46]⟩ := by rfl
theorem C_int3 {w : World} {g t : Nat} (x y z : Int) (h : w.heap[g]? = some (.cells #[.int .i64 x, .int .i64 y, .int .i64 z] t (0, 0))) : (Kd.int .i64).C w (some ⟨g, 0, none⟩) [x, y, z].length [x, y, z] := by
 refine ⟨rfl, by simp, fun _ => ⟨_, rfl, ?_⟩⟩
 intro j p hp
 match j with
 | 0 =>
  cases hp
  refine ⟨[.int .i64 x], rfl, rfl, fun i u hu => ?_⟩
  rw [add_at, blk_cell h]
  match i with
  | 0 => exact hu
  | i + 1 => exact absurd hu (by simp)
 | 1 =>
  cases hp
  refine ⟨[.int .i64 y], rfl, rfl, fun i u hu => ?_⟩
  rw [add_at, blk_cell h]
  match i with
  | 0 => exact hu
  | i + 1 => exact absurd hu (by simp)
 | 2 =>
  cases hp
  refine ⟨[.int .i64 z], rfl, rfl, fun i u hu => ?_⟩
  rw [add_at, blk_cell h]
  match i with
  | 0 => exact hu
  | i + 1 => exact absurd hu (by simp)
theorem ran_calls {E : Option Addr} {c : Nat} (w : World) (h : (Kd.int .i64).C w E 3 [3, 4, 6]) (hc : 3 ≤ c) :
  Calls Try.prog 71 #[.slice E 3 c] w fun e w' => ∃ A' c', e = .returned (.slice A' 3 c') ∧ (k65.C w' A' 3 (eK.map toE) ∧ 3 ≤ c') ∧ Below w.heap.size w w' := by
 refine (parcloselaw35_ran.calls 10 E c [3, 4, 6] _ w h hc ran_f).mono ?_
 rintro e w' ⟨v, rfl, ho, hb⟩
 obtain ⟨A', c', rfl⟩ := Kd.R_slice ho
 exact ⟨A', c', rfl, ⟨C_ofR ho, (Kd.R_reads' ho).2.1⟩, hb⟩
theorem eK_in : ∀ e ∈ eK, inI e := by unfold eK inI; simp
set_option maxHeartbeats 4000000 in
set_option maxRecDepth 100000 in
theorem knows27_calls (w : World) : Calls Try.prog 27 #[] w fun e w' => e = .returned (.bool true) ∧ Below w.heap.size w w' := by
 have hu := Try.underlying97
 go_enter Try.func27, Try.ntmps27
 go_wp2_with fail
 refine (ran_calls _ (C_int3 3 4 6 (heap_alloc_new w _)) (Nat.le_refl 3)).mono ?_
 rintro e w1 ⟨A1, c1, rfl, ⟨h1, h1c⟩, hb⟩
 have HB1 := asd (below_then (below_alloc (Below.refl _ w) _) (by simp) hb)
 have G1 := asd (gbars_calls (c := c1) w1 eK h1 h1c (by decide))
 rw [bars_K] at G1
 clear h1 h1c hb
 go_wp2_with fail
 refine G1.out.mono ?_
 rintro e w2 ⟨A2, c2, rfl, ⟨h2, h2c, h2g⟩, hb⟩
 have HB2 := asd (below_step HB1.out hb)
 obtain ⟨ad, rfl, y0, y1, y2, y3⟩ := at_T97 h2 0 (by decide) (by decide)
 obtain ⟨g2, rfl⟩ := h2g _ rfl
 rw [add_plain] at y0 y1 y2 y3
 have z0 : w2.cell? ⟨g2, 0, none⟩ = some (.int .i64 3) := y0
 have z1 : w2.cell? ⟨g2, 1, none⟩ = some (.int .i64 5) := y1
 have z2 : w2.cell? ⟨g2, 2, none⟩ = some (.int .i64 1) := y2
 have z3 : w2.cell? ⟨g2, 3, none⟩ = some (.int .i64 0) := y3
 clear y0 y1 y2 y3 h2 h2c h2g hb G1
 go_wp2_with fail
 refine (ran_calls _ (C_int3 3 4 6 (heap_alloc_new w2 _)) (Nat.le_refl 3)).mono ?_
 rintro e w3 ⟨A3, c3, rfl, ⟨h3, h3c⟩, hb⟩
 have HB3 := asd (below_step HB2.out (below_then (below_alloc (Below.refl _ w2) _) (by simp) hb))
 have G3 := asd (grow_calls (c := c3) w3 eK 2 8 h3 (by decide) eK_in (by decide) (by decide))
 rw [row_K] at G3
 clear h3 h3c hb
 go_wp2_with (first | (go_at_call 32; refine G3.out.mono ?_; rintro e w4 ⟨rfl, hb⟩; have HB4 := asd (below_step HB3.out hb); clear hb))
 go_ret
 exact ⟨rfl, HB4.out⟩
section
variable (A : Option Addr) (c : Nat) (es : List S64) (f t : Int)
end
end Go.Proofs.Ytalimpniimgheaa.Fn
namespace Go.Proofs.Ytalimpniimgheaa.Fn
open Go.RowKit Go.Proofs.YtalimpniimgheaaW.PrintWords Go.Proofs.YtalimpniimgheaaW.PrintLast Go.Proofs.YtalimpniimgheaaW.PrintMore
set_option linter.unusedVariables false
set_option linter.unusedSimpArgs false
def busyB : List S110 → Int
 | [] => 0
 | b :: bs => (b.f1 - b.f0) + busyB bs
theorem busyB_app (a b : List S110) : busyB (a ++ b) = busyB a + busyB b := by
 induction a with
 | nil => simp [busyB]
 | cons x a ih => show (x.f1 - x.f0) + busyB (a ++ b) = (x.f1 - x.f0) + busyB a + busyB b; rw [ih]; omega
def gb (bs : List S110) (k : Nat) : S110 := bs.getD k z110
structure BI (es : List S64) (bs : List S110) (hi : Int) : Prop where
 pos : ∀ k, k < bs.length → 0 ≤ (gb bs k).f0 ∧ (gb bs k).f0 < (gb bs k).f1 ∧ (gb bs k).f1 ≤ hi
 ris : ∀ k, k + 1 < bs.length → (gb bs k).f1 ≤ (gb bs (k + 1)).f0 ∧ ¬ ((gb bs k).f1 = (gb bs (k + 1)).f0 ∧ (gb bs k).f2 = (gb bs (k + 1)).f2 ∧ (gb bs k).f3 = (gb bs (k + 1)).f3)
 cov : ∀ i, i < es.length → ∃ k, k < bs.length ∧ (gb bs k).f0 ≤ (es.getD i z64).f0 ∧ (es.getD i z64).f0 < (gb bs k).f1 ∧ (gb bs k).f2 = (es.getD i z64).f2 ∧ (gb bs k).f3 = (es.getD i z64).f3
 sum : busyB bs = es.length
 len : bs.length ≤ es.length
theorem gb_app (bs : List S110) (x : S110) (k : Nat) : gb (bs ++ [x]) k = if k < bs.length then gb bs k else if k = bs.length then x else z110 := by
 unfold gb
 simp only [List.getD_eq_getElem?_getD]
 by_cases h : k < bs.length
 ·rw [if_pos h, List.getElem?_append_left h]
 ·rw [if_neg h, List.getElem?_append_right (by omega)]
  by_cases e : k = bs.length
  ·rw [if_pos e, e]; simp
  ·rw [if_neg e, List.getElem?_eq_none (by simp; omega)]; rfl
theorem es_app (es : List S64) (x : S64) (i : Nat) (h : i < (es ++ [x]).length) : (es ++ [x]).getD i z64 = if i < es.length then es.getD i z64 else x := by
 simp only [List.getD_eq_getElem?_getD]
 by_cases h1 : i < es.length
 ·rw [if_pos h1, List.getElem?_append_left h1]
 ·rw [List.length_append, List.length_singleton] at h
  have e : i = es.length := by omega
  rw [if_neg h1, e]; simp
theorem BI.nil (hi : Int) : BI [] [] hi := ⟨fun k hk => absurd hk (by simp), fun k hk => absurd hk (by simp), fun i hi => absurd hi (by simp), rfl, Nat.le_refl _⟩
theorem snoc_of {bs : List S110} (h : bs ≠ []) : ∃ cs x, bs = cs ++ [x] := ⟨bs.dropLast, bs.getLast h, (List.dropLast_concat_getLast h).symm⟩
theorem BI.step {es : List S64} {bs : List S110} {hi : Int} (h : BI es bs hi) (e : S64) (h0 : 0 ≤ e.f0) (hh : hi ≤ e.f0) : BI (es ++ [e]) (addBar bs (barE e)) (e.f0 + 1) := by
 unfold addBar
 by_cases c : bs ≠ [] ∧ (bs.getD (bs.length - 1) z110).f1 = (barE e).f0 ∧ (bs.getD (bs.length - 1) z110).f2 = (barE e).f2 ∧ (bs.getD (bs.length - 1) z110).f3 = (barE e).f3
 ·rw [if_pos c]
  obtain ⟨c1, c2, c3, c4⟩ := c
  obtain ⟨cs, x, rfl⟩ := snoc_of c1
  have el : (cs ++ [x]).length - 1 = cs.length := by simp
  have eg : (cs ++ [x]).getD cs.length z110 = x := by simp
  rw [el, eg] at c2 c3 c4 ⊢
  have es2 : (cs ++ [x]).set cs.length ⟨x.f0, (barE e).f1, x.f2, x.f3⟩ = cs ++ [⟨x.f0, e.f0 + 1, x.f2, x.f3⟩] := by rw [List.set_append_right _ _ (Nat.le_refl _)]; simp; rfl
  rw [es2]
  have c2 : x.f1 = e.f0 := c2
  have c3 : x.f2 = e.f2 := c3
  have c4 : x.f3 = e.f3 := c4
  have hx := h.pos cs.length (by simp)
  rw [gb_app, if_neg (Nat.lt_irrefl _), if_pos rfl] at hx
  refine ⟨fun k hk => ?_, fun k hk => ?_, fun i hi' => ?_, ?_, ?_⟩
  ·rw [gb_app]
   by_cases q : k < cs.length
   ·rw [if_pos q]
    have h1 := h.pos k (by simp; omega)
    rw [gb_app, if_pos q] at h1
    exact ⟨h1.1, h1.2.1, by omega⟩
   ·have q2 : k = cs.length := by simp at hk; omega
    rw [if_neg q, if_pos q2]
    exact ⟨hx.1, by show x.f0 < e.f0 + 1; omega, Int.le_refl _⟩
  ·have hk2 : k < cs.length := by simp at hk; omega
   have h1 := h.ris k (by simp; omega)
   rw [gb_app, gb_app, if_pos hk2] at h1 ⊢
   by_cases q : k + 1 < cs.length
   ·rw [if_pos q] at h1 ⊢; exact h1
   ·rw [if_neg q, if_pos (by omega)] at h1 ⊢; exact h1
  ·rw [es_app _ _ _ hi']
   by_cases q : i < es.length
   ·rw [if_pos q]
    obtain ⟨k, k1, k2, k3, k4, k5⟩ := h.cov i q
    rw [gb_app] at k2 k3 k4 k5
    refine ⟨k, by simpa using k1, ?_⟩
    rw [gb_app]
    by_cases q2 : k < cs.length
    ·rw [if_pos q2] at k2 k3 k4 k5 ⊢; exact ⟨k2, k3, k4, k5⟩
    ·have q3 : k = cs.length := by simp at k1; omega
     rw [if_neg q2, if_pos q3] at k2 k3 k4 k5 ⊢
     exact ⟨k2, by show _ < e.f0 + 1; omega, k4, k5⟩
   ·rw [if_neg q]
    refine ⟨cs.length, by simp, ?_⟩
    rw [gb_app, if_neg (Nat.lt_irrefl _), if_pos rfl]
    exact ⟨by show x.f0 ≤ e.f0; omega, by show e.f0 < e.f0 + 1; omega, c3, c4⟩
  ·have h1 := h.sum
   rw [busyB_app] at h1 ⊢
   have e1 : busyB [x] = x.f1 - x.f0 := by show (x.f1 - x.f0) + 0 = _; omega
   have e2 : busyB [(⟨x.f0, e.f0 + 1, x.f2, x.f3⟩ : S110)] = e.f0 + 1 - x.f0 := by show (e.f0 + 1 - x.f0) + 0 = _; omega
   rw [e1] at h1
   rw [e2, List.length_append, List.length_singleton]
   omega
  ·have h1 := h.len
   simp at h1 ⊢
   omega
 ·rw [if_neg c]
  refine ⟨fun k hk => ?_, fun k hk => ?_, fun i hi' => ?_, ?_, ?_⟩
  ·rw [gb_app]
   by_cases q : k < bs.length
   ·rw [if_pos q]
    have h1 := h.pos k q
    exact ⟨h1.1, h1.2.1, by omega⟩
   ·have q2 : k = bs.length := by simp at hk; omega
    rw [if_neg q, if_pos q2]
    exact ⟨h0, by show e.f0 < e.f0 + 1; omega, Int.le_refl _⟩
  ·have hk2 : k < bs.length := by simp at hk; omega
   rw [gb_app, gb_app, if_pos hk2]
   by_cases q : k + 1 < bs.length
   ·rw [if_pos q]; exact h.ris k q
   ·have q2 : k + 1 = bs.length := by omega
    rw [if_neg q, if_pos q2]
    have h1 := h.pos k hk2
    refine ⟨by show (gb bs k).f1 ≤ e.f0; omega, fun hc => c ⟨fun q3 => by rw [q3] at hk2; simp at hk2, ?_⟩⟩
    rw [show bs.length - 1 = k by omega]
    exact hc
  ·rw [es_app _ _ _ hi']
   by_cases q : i < es.length
   ·rw [if_pos q]
    obtain ⟨k, k1, k2⟩ := h.cov i q
    refine ⟨k, by simp; omega, ?_⟩
    rw [gb_app, if_pos k1]; exact k2
   ·rw [if_neg q]
    refine ⟨bs.length, by simp, ?_⟩
    rw [gb_app, if_neg (Nat.lt_irrefl _), if_pos rfl]
    exact ⟨Int.le_refl _, by show e.f0 < e.f0 + 1; omega, rfl, rfl⟩
  ·rw [busyB_app, h.sum, List.length_append, List.length_singleton]
   have e2 : busyB [barE e] = 1 := by show (e.f0 + 1 - e.f0) + 0 = 1; omega
   rw [e2]; omega
  ·have h1 := h.len
   simp
   omega
theorem BI.far {es : List S64} {bs : List S110} {hi : Int} (h : BI es bs hi) : ∀ d k, k + 1 + d < bs.length → (gb bs k).f1 ≤ (gb bs (k + 1 + d)).f0 := by
 intro d
 induction d with
 | zero => intro k hk; exact (h.ris k hk).1
 | succ d ih =>
  intro k hk
  have h1 := ih k (by omega)
  have h2 := (h.ris (k + 1 + d) (by omega)).1
  have h3 := (h.pos (k + 1 + d) (by omega)).2.1
  have e : k + 1 + (d + 1) = k + 1 + d + 1 := by omega
  rw [e]
  omega
theorem BI.apart {es : List S64} {bs : List S110} {hi : Int} (h : BI es bs hi) {i j : Nat} (hij : i < j) (hj : j < bs.length) : (gb bs i).f1 ≤ (gb bs j).f0 := by
 have h1 := h.far (j - i - 1) i (by omega)
 rw [show i + 1 + (j - i - 1) = j by omega] at h1
 exact h1
structure Rise (es : List S64) (hi : Int) : Prop where
 bi : BI es (barsOf es) hi
 ok : ∀ e ∈ es, e.f1 = 3 ∧ 0 ≤ e.f0 ∧ e.f0 < hi
theorem Rise.nil (hi : Int) : Rise [] hi := ⟨BI.nil hi, fun e he => by simp at he⟩
theorem Rise.snoc {es : List S64} {hi : Int} (h : Rise es hi) (e : S64) (h3 : e.f1 = 3) (h0 : 0 ≤ e.f0) (hh : hi ≤ e.f0) (hm : e.f0 < 4611686018427387904) : Rise (es ++ [e]) (e.f0 + 1) := by
 refine ⟨?_, fun x hx => ?_⟩
 ·have e1 : barsOf (es ++ [e]) = addBar (barsOf es) (barE e) := by
   unfold barsOf
   rw [List.foldl_append]
   show stepBar (es.foldl stepBar []) e = _
   exact step_yes ⟨h3, h0, hm⟩
  rw [e1]
  exact h.bi.step e h0 hh
 ·rw [List.mem_append] at hx
  rcases hx with hx | hx
  ·have h1 := h.ok x hx
   exact ⟨h1.1, h1.2.1, by omega⟩
  ·obtain rfl := List.mem_singleton.1 hx
   exact ⟨h3, h0, by omega⟩
end Go.Proofs.Ytalimpniimgheaa.Fn
namespace Go.Proofs.Ytalimpniimgheaa.Fn
open Go.RowKit Go.Proofs.YtalimpniimgheaaW.PrintWords Go.Proofs.YtalimpniimgheaaW.PrintLast Go.Proofs.YtalimpniimgheaaW.PrintMore
set_option linter.unusedVariables false
set_option linter.unusedSimpArgs false
def lessB (dus : List Int) (a b : Int) : Bool := decide (dus.getD a.toNat 0 < dus.getD b.toNat 0 ∨ (dus.getD a.toNat 0 = dus.getD b.toNat 0 ∧ a < b))
def leD (d : List Int) (a b : Int) : Prop := lessB d b a = false
def parN (j : Nat) : Nat := (j - 1) / 2
def swapA (ats : List Int) (i k : Nat) : List Int := (ats.set i (ats.getD k 0)).set k (ats.getD i 0)
def swapP (ats pls : List Int) (i k : Nat) : List Int := (pls.set (ats.getD k 0).toNat i).set (ats.getD i 0).toNat k
structure Linked (ats pls dus : List Int) : Prop where
 len : pls.length = dus.length
 rng : ∀ i, i < ats.length → 0 ≤ ats.getD i 0 ∧ ats.getD i 0 < dus.length
 fwd : ∀ i, i < ats.length → pls.getD (ats.getD i 0).toNat 0 = (i : Int)
 bwd : ∀ id : Nat, id < pls.length → pls.getD id 0 = -1 ∨ ∃ i : Nat, i < ats.length ∧ pls.getD id 0 = (i : Int) ∧ ats.getD i 0 = (id : Int)
def SameIn (p q : List Int) : Prop := ∀ id : Nat, id < p.length → (q.getD id 0 = -1 ↔ p.getD id 0 = -1)
theorem Linked.inj {ats pls dus : List Int} (h : Linked ats pls dus) {i k : Nat} (hi : i < ats.length) (hk : k < ats.length) (e : ats.getD i 0 = ats.getD k 0) : i = k := by
 have h1 := h.fwd i hi
 have h2 := h.fwd k hk
 rw [e, h2] at h1
 omega
theorem SameIn.trans {p q r : List Int} (h : SameIn p q) (hl : q.length = p.length) (k : SameIn q r) : SameIn p r := fun id hid => (k id (by omega)).trans (h id hid)
def HeapP (d ats : List Int) : Prop := ∀ j, 0 < j → j < ats.length → leD d (ats.getD (parN j) 0) (ats.getD j 0)
def UpInv (moved : Bool) (d ats : List Int) (i : Nat) : Prop := (∀ j, 0 < j → j < ats.length → j ≠ i → (moved = true ∨ parN j ≠ i) → leD d (ats.getD (parN j) 0) (ats.getD j 0)) ∧ (0 < i → ∀ j, 0 < j → j < ats.length → parN j = i → leD d (ats.getD (parN i) 0) (ats.getD j 0))
def DownInv (d ats : List Int) (i : Nat) : Prop := (∀ j, 0 < j → j < ats.length → parN j ≠ i → leD d (ats.getD (parN j) 0) (ats.getD j 0)) ∧ (0 < i → ∀ j, 0 < j → j < ats.length → parN j = i → leD d (ats.getD (parN i) 0) (ats.getD j 0))
def leastF (d ats : List Int) (i : Nat) : Nat :=
 if 2 * i + 2 < ats.length ∧ lessB d (ats.getD (2 * i + 2) 0) (ats.getD (if 2 * i + 1 < ats.length ∧ lessB d (ats.getD (2 * i + 1) 0) (ats.getD i 0) = true then 2 * i + 1 else i) 0) = true then 2 * i + 2
 else if 2 * i + 1 < ats.length ∧ lessB d (ats.getD (2 * i + 1) 0) (ats.getD i 0) = true then 2 * i + 1 else i
end Go.Proofs.Ytalimpniimgheaa.Fn
namespace Go.Proofs.Ytalimpniimgheaa.Fn
open Go.RowKit Go.Proofs.YtalimpniimgheaaW.PrintWords Go.Proofs.YtalimpniimgheaaW.PrintLast Go.Proofs.YtalimpniimgheaaW.PrintMore
set_option linter.unusedVariables false
set_option linter.unusedSimpArgs false
def hord1T : Bool × List (List Nat × List Nat) := (true, [([], []), ([0], [0]), ([1], [1]), ([2], [2]), ([], []), ([3, 4], [3, 4]), ([5], [5]), ([], []), ([7], [7]), ([8], [8]), ([9], [9]), ([], []), ([10, 11], [10, 11]), ([12], [12]), ([6, 13], [6, 13]), ([], []), ([], []), ([15, 16, 14], [15, 16]), ([14, 17], [14, 17]), ([18, 17], [18]), ([19, 19, 0, 1, 2, 3, 4, 5, 6, 7, 8, 9, 10, 11, 12, 13, 14, 15, 16, 17, 18, 19], [19])])
def hord1B : List Nat := [0, 1, 3, 7, 0, 31, 63, 0, 128, 384, 896, 0, 3968, 8064, 16383, 0, 0, 131071, 262143, 524287, 1048575]
def hless1T : Bool × List (List Nat × List Nat) := (true, [([], []), ([], []), ([1], [1]), ([2], [2]), ([3], [3]), ([], []), ([4, 5], [4, 5]), ([6], [6]), ([], []), ([8], [8]), ([9], [9]), ([10], [10]), ([], []), ([11, 12], [11, 12]), ([13], [13]), ([0, 7, 14], [0, 7, 14]), ([15], [15]), ([16, 15, 0, 1, 2, 3, 4, 5, 6, 7, 8, 9, 10, 11, 12, 13, 14, 15, 16], [16])])
def hless1B : List Nat := [0, 0, 2, 6, 14, 0, 62, 126, 0, 256, 768, 1792, 0, 7936, 16128, 32767, 65535, 131071]
def hset0T : Bool × List (List Nat × List Nat) := (true, [([], []), ([0], [0]), ([1], [1]), ([2], [2]), ([], []), ([], []), ([5], [5]), ([6], [6]), ([7], [7]), ([], []), ([], []), ([], []), ([3, 4, 0, 1, 2, 3, 4, 8, 10], [3, 4]), ([12, 10, 0, 1, 2, 3, 4, 8, 10], [10, 12]), ([8, 9, 0, 1, 2, 3, 4, 5, 6, 7, 8, 9, 10, 11, 12, 13], [8, 9]), ([14, 11, 13, 0, 1, 2, 3, 4, 5, 6, 7, 8, 9, 10, 11, 12, 13], [11, 14])])
def hset0B : List Nat := [0, 1, 3, 7, 0, 0, 32, 96, 224, 0, 0, 0, 1535, 5631, 16383, 32767]
structure IsHeap (w : World) (base g : Nat) (A : Option Addr) (ca : Nat) (ats : List Int) (gp cp : Nat) (pls : List Int) (gd cd : Nat) (dus : List Int) : Prop where
 blk : w.heap[g]? = some (.cells #[.slice A ats.length ca, .slice (some ⟨gp, 0, none⟩) pls.length cp, .slice (some ⟨gd, 0, none⟩) dus.length cd, .bool true] 168 (0, 0))
 lo : base ≤ g
 n1 : gp ≠ g
 n2 : gd ≠ g
 n3 : gp ≠ gd
 ra : (Kd.int .i64).R 3 w base (fun k => k ≠ g ∧ k ≠ gp ∧ k ≠ gd) (.slice A ats.length ca) ats
 rp : (Kd.int .i64).R 3 w base (fun k => k = gp) (.slice (some ⟨gp, 0, none⟩) pls.length cp) pls
 rd : (Kd.int .i64).R 3 w base (fun k => k = gd) (.slice (some ⟨gd, 0, none⟩) dus.length cd) dus
def heapS (g : Nat) (A : Option Addr) (gp gd k : Nat) : Prop := k = g ∨ (∃ a, A = some a ∧ k = a.block) ∨ k = gp ∨ k = gd
theorem hat_int {w : World} {A : Option Addr} {n : Nat} {ys : List Int} (h : Kd.C (Kd.int .i64) w A n ys) (i : Int) (h0 : 0 ≤ i) (h1 : i < n) : ∃ ad, A = some ad ∧ w.cell? (ad.add i.toNat) = some (.int .i64 (ys.getD i.toNat 0)) := by
 obtain ⟨ad, cc, rfl, _, hK, hc0⟩ := Kd.C_get h 0 i h0 h1
 have ee : cc = [.int .i64 (ys.getD i.toNat 0)] := hK
 subst ee
 refine ⟨ad, rfl, ?_⟩
 have h := hc0 0 _ rfl
 rwa [show i.toNat * (Kd.int .i64).sz + 0 = i.toNat from Nat.mul_one _] at h
section
variable {w w1 : World} {base g ca gp cp gd cd ga : Nat} {A : Option Addr} {ats pls dus : List Int}
theorem IsHeap.below (h : IsHeap w base g A ca ats gp cp pls gd cd dus) (hb : Below w.heap.size w w1) : IsHeap w1 base g A ca ats gp cp pls gd cd dus :=
 ⟨blk_below h.blk hb, h.lo, h.n1, h.n2, h.n3, Kd.R_below h.ra hb, Kd.R_below h.rp hb, Kd.R_below h.rd hb⟩
theorem IsHeap.at_ (h : IsHeap w base g (some ⟨ga, 0, none⟩) ca ats gp cp pls gd cd dus) (i : Nat) (hi : i < ats.length) : w.cell? ⟨ga, i, none⟩ = some (.int .i64 (ats.getD i 0)) := by
 obtain ⟨ad, e, hc⟩ := hat_int (C_ofR h.ra) (i : Int) (by omega) (by omega)
 obtain rfl := Option.some.inj e
 rwa [add_plain, Int.toNat_natCast] at hc
end
def cmpI (a b : Int) : Int := if a < b then -1 else if b < a then 1 else 0
def orI (a b : Int) : Int := if a = 0 then b else a
def ordV (dus : List Int) (a b : Int) : Int := orI (cmpI (dus.getD a.toNat 0) (dus.getD b.toNat 0)) (cmpI a b)
set_option maxHeartbeats 2000000 in
set_option maxRecDepth 100000 in
theorem isNaN_calls (a : Int) (w : World) : Calls Try.prog 145 #[.int .i64 a] w fun e w' => e = .returned (.bool false) ∧ w = w' := by
 go_enter Try.func145, Try.ntmps145
 go_wp2
 go_ret
 simp
set_option maxHeartbeats 2000000 in
set_option maxRecDepth 100000 in
theorem compare_calls (a b : Int) (w : World) : Calls Try.prog 133 #[.int .i64 a, .int .i64 b] w fun e w' => e = .returned (.int .i64 (cmpI a b)) ∧ w = w' := by
 unfold cmpI
 by_cases h1 : a < b
 ·rw [if_pos h1]
  go_enter Try.func133, Try.ntmps133
  go_wp2_with (first | (go_at_call 145; refine (isNaN_calls _ _).mono ?_; rintro e w1 ⟨rfl, rfl⟩))
  go_ret
  simp
 ·rw [if_neg h1]
  by_cases h2 : b < a
  ·rw [if_pos h2]
   go_enter Try.func133, Try.ntmps133
   go_wp2_with (first | (go_at_call 145; refine (isNaN_calls _ _).mono ?_; rintro e w1 ⟨rfl, rfl⟩))
   go_ret
   simp
  ·rw [if_neg h2]
   go_enter Try.func133, Try.ntmps133
   go_wp2_with (first | (go_at_call 145; refine (isNaN_calls _ _).mono ?_; rintro e w1 ⟨rfl, rfl⟩))
   go_ret
   simp
section
variable {w : World} {base g ca gp cp gd cd ga : Nat} {A : Option Addr} {ats pls dus : List Int}
end
end Go.Proofs.Ytalimpniimgheaa.Fn
namespace Go.Proofs.Ytalimpniimgheaa.Fn
open Go.RowKit Go.Proofs.YtalimpniimgheaaW.PrintWords Go.Proofs.YtalimpniimgheaaW.PrintLast Go.Proofs.YtalimpniimgheaaW.PrintMore
set_option linter.unusedVariables false
set_option linter.unusedSimpArgs false
theorem rd97g (l : List S97) (x : Nat) : rd_T97 l (x : Int) = l.getD x z97 := by unfold rd_T97; rw [Int.toNat_natCast]
def gordT : Bool × List (List Nat × List Nat) := (true, [([], []), ([0], [0]), ([], []), ([2], [2]), ([1, 3], [1, 3]), ([], []), ([5], [5]), ([], []), ([7], [7]), ([6, 8, 4], [6, 8]), ([], []), ([10], [10]), ([], []), ([12], [12]), ([11, 13, 9], [11, 13]), ([], []), ([15], [15]), ([], []), ([17], [17]), ([16, 18, 14], [16, 18]), ([4, 9, 14, 19], [4, 9, 14, 19]), ([20, 19], [20]), ([21, 21, 0, 1, 2, 3, 4, 5, 6, 7, 8, 9, 10, 11, 12, 13, 14, 15, 16, 17, 18, 19, 20, 21], [21])])
def gordB : List Nat := [0, 1, 0, 4, 15, 0, 32, 0, 128, 511, 0, 1024, 0, 4096, 16383, 0, 32768, 0, 131072, 524287, 1048575, 2097151, 4194303]
theorem gord_tab : rtab .any (opsOf Try.f105 1) = gordT := by kernel_rfl
theorem gord_bits : waitsOk gordT.2 gordB = true := by kernel_rfl
set_option maxHeartbeats 16000000 in
set_option maxRecDepth 100000 in
theorem or4_calls (a b c d : Int) {g t : Nat} (w : World) (ha : a ≠ 0) (h : w.heap[g]? = some (.cells #[.int .i64 a, .int .i64 b, .int .i64 c, .int .i64 d] t (0, 0))) : Calls Try.prog 132 #[.slice (some ⟨g, 0, none⟩) 4 4] w fun e w' => e = .returned (.int .i64 a) ∧ w = w' := by
 have hx0 := (blk_cell h 0).trans rfl
 clear h
 have d : (a == 0) = false := by simpa using ha
 have d2 : decide (a = 0) = false := decide_eq_false ha
 clear ha
 go_enter Try.func132, Try.ntmps132
 go_wp2
 refine wp_loop_rounds 1 ?_
 rw [rounds_succ]
 go_wp2
 go_ret
 simp
theorem cmpI_ne {a b : Int} (h : a ≠ b) : cmpI a b ≠ 0 := by
 unfold cmpI
 by_cases h1 : a < b
 ·rw [if_pos h1]; decide
 ·rw [if_neg h1, if_pos (by omega)]; decide
set_option maxHeartbeats 16000000 in
set_option maxRecDepth 100000 in
theorem gorder_calls (x y : S97) (w : World) (hne : x.f0 ≠ y.f0) : Calls Try.prog 105 #[.agg #[.int .i64 x.f0, .int .i64 x.f1, .int .i64 x.f2, .int .i64 x.f3], .agg #[.int .i64 y.f0, .int .i64 y.f1, .int .i64 y.f2, .int .i64 y.f3]] w fun e w' => e = .returned (.int .i64 (cmpI x.f0 y.f0)) ∧ Below w.heap.size w w' := by
 have hu97 := Try.underlying97
 have NZ := asd (cmpI_ne hne)
 have e1 : (w.alloc (.cells #[.int .i64 x.f0, .int .i64 x.f1, .int .i64 x.f2, .int .i64 x.f3] 97)).heap.size = w.heap.size + 1 := by unfold World.alloc; exact Array.size_push ..
 have BX := asd (blk_alloc (heap_alloc_new w (.cells #[.int .i64 x.f0, .int .i64 x.f1, .int .i64 x.f2, .int .i64 x.f3] 97)) (.cells #[.int .i64 y.f0, .int .i64 y.f1, .int .i64 y.f2, .int .i64 y.f3] 97))
 have by0 := heap_alloc_new (w.alloc (.cells #[.int .i64 x.f0, .int .i64 x.f1, .int .i64 x.f2, .int .i64 x.f3] 97)) (.cells #[.int .i64 y.f0, .int .i64 y.f1, .int .i64 y.f2, .int .i64 y.f3] 97)
 rw [e1] at by0
 have BY := asd by0
 have HB := asd (below_alloc (below_alloc (Below.refl w.heap.size w) (.cells #[.int .i64 x.f0, .int .i64 x.f1, .int .i64 x.f2, .int .i64 x.f3] 97)) (.cells #[.int .i64 y.f0, .int .i64 y.f1, .int .i64 y.f2, .int .i64 y.f3] 97))
 clear by0 e1 hne
 go_enter Try.func105, Try.ntmps105
 go_wp2_with fail
 generalize (w.alloc (.cells #[.int .i64 x.f0, .int .i64 x.f1, .int .i64 x.f2, .int .i64 x.f3] 97)).alloc (.cells #[.int .i64 y.f0, .int .i64 y.f1, .int .i64 y.f2, .int .i64 y.f3] 97) = wa at BX BY HB ⊢
 generalize hs2 : w.heap.size + 1 = s2 at BY ⊢
 generalize hs : w.heap.size = s at BX hs2 ⊢
 refine start_ (n := 23) (S := fun w' => w'.cell? ⟨s, 0, none⟩ = some (.int .i64 x.f0) ∧ w'.cell? ⟨s, 1, none⟩ = some (.int .i64 x.f1) ∧ w'.cell? ⟨s, 2, none⟩ = some (.int .i64 x.f2) ∧ w'.cell? ⟨s, 3, none⟩ = some (.int .i64 x.f3) ∧ w'.cell? ⟨s2, 0, none⟩ = some (.int .i64 y.f0) ∧ w'.cell? ⟨s2, 1, none⟩ = some (.int .i64 y.f1) ∧ w'.cell? ⟨s2, 2, none⟩ = some (.int .i64 y.f2) ∧ w'.cell? ⟨s2, 3, none⟩ = some (.int .i64 y.f3)) (ds := [20, 21]) #[false, false, false, false, false, false, false, false, false, false, false, false, false, false, false, false, false, false, false, false, false, false, false] (by kernel_rfl) rfl rfl ⟨(blk_cell BX.out 0).trans rfl, (blk_cell BX.out 1).trans rfl, (blk_cell BX.out 2).trans rfl, (blk_cell BX.out 3).trans rfl, (blk_cell BY.out 0).trans rfl, (blk_cell BY.out 1).trans rfl, (blk_cell BY.out 2).trans rfl, (blk_cell BY.out 3).trans rfl⟩ (fun hHeld => ?_); refine with_tabW gord_tab gord_bits (fun HT_ HW_ => ?_)
 have BXd := asd (blk_drew BX.out)
 have BYd := asd (blk_drew BY.out)
 have HBd := asd (below_drew HB.out)
 clear BX BY HB
 generalize wa.drew = wb at BXd BYd HBd hHeld ⊢
 refine pure_ (i := 0) (N := (some 5)) (v := ?_) (a' := ?_) #[true, false, false, false, false, false, false, false, false, false, false, false, false, false, false, false, false, false, false, false, false, false, false] rfl rfl (any_of HT_.out (by kernel_rfl)) (fun _ _ _ h => h) (Or.inl ⟨by rfl, ?_⟩) ?_ ?_
 rotate_left
 ·intro w'
  go_simp
  with_reducible rfl
 rotate_left
 ·simp only [Act.put, sB, i64_w, i32_w]
  rfl
 refine pure_ (i := 2) (N := (some 7)) (v := ?_) (a' := ?_) #[true, false, true, false, false, false, false, false, false, false, false, false, false, false, false, false, false, false, false, false, false, false, false] rfl rfl (any_of HT_.out (by kernel_rfl)) (fun _ _ _ h => h) (Or.inl ⟨by rfl, ?_⟩) ?_ ?_
 rotate_left
 ·intro w'
  go_simp
  with_reducible rfl
 rotate_left
 ·simp only [Act.put, sB, i64_w, i32_w]
  rfl
 refine pure_ (i := 5) (N := (some 10)) (v := ?_) (a' := ?_) #[true, false, true, false, false, true, false, false, false, false, false, false, false, false, false, false, false, false, false, false, false, false, false] rfl rfl (any_of HT_.out (by kernel_rfl)) (fun _ _ _ h => h) (Or.inl ⟨by rfl, ?_⟩) ?_ ?_
 rotate_left
 ·intro w'
  go_simp
  with_reducible rfl
 rotate_left
 ·simp only [Act.put, sB, i64_w, i32_w]
  rfl
 refine pure_ (i := 7) (N := (some 12)) (v := ?_) (a' := ?_) #[true, false, true, false, false, true, false, true, false, false, false, false, false, false, false, false, false, false, false, false, false, false, false] rfl rfl (any_of HT_.out (by kernel_rfl)) (fun _ _ _ h => h) (Or.inl ⟨by rfl, ?_⟩) ?_ ?_
 rotate_left
 ·intro w'
  go_simp
  with_reducible rfl
 rotate_left
 ·simp only [Act.put, sB, i64_w, i32_w]
  rfl
 refine pure_ (i := 10) (N := (some 15)) (v := ?_) (a' := ?_) #[true, false, true, false, false, true, false, true, false, false, true, false, false, false, false, false, false, false, false, false, false, false, false] rfl rfl (any_of HT_.out (by kernel_rfl)) (fun _ _ _ h => h) (Or.inl ⟨by rfl, ?_⟩) ?_ ?_
 rotate_left
 ·intro w'
  go_simp
  with_reducible rfl
 rotate_left
 ·simp only [Act.put, sB, i64_w, i32_w]
  rfl
 refine pure_ (i := 12) (N := (some 17)) (v := ?_) (a' := ?_) #[true, false, true, false, false, true, false, true, false, false, true, false, true, false, false, false, false, false, false, false, false, false, false] rfl rfl (any_of HT_.out (by kernel_rfl)) (fun _ _ _ h => h) (Or.inl ⟨by rfl, ?_⟩) ?_ ?_
 rotate_left
 ·intro w'
  go_simp
  with_reducible rfl
 rotate_left
 ·simp only [Act.put, sB, i64_w, i32_w]
  rfl
 refine pure_ (i := 15) (N := (some 20)) (v := ?_) (a' := ?_) #[true, false, true, false, false, true, false, true, false, false, true, false, true, false, false, true, false, false, false, false, false, false, false] rfl rfl (any_of HT_.out (by kernel_rfl)) (fun _ _ _ h => h) (Or.inl ⟨by rfl, ?_⟩) ?_ ?_
 rotate_left
 ·intro w'
  go_simp
  with_reducible rfl
 rotate_left
 ·simp only [Act.put, sB, i64_w, i32_w]
  rfl
 refine pure_ (i := 17) (N := (some 22)) (v := ?_) (a' := ?_) #[true, false, true, false, false, true, false, true, false, false, true, false, true, false, false, true, false, true, false, false, false, false, false] rfl rfl (any_of HT_.out (by kernel_rfl)) (fun _ _ _ h => h) (Or.inl ⟨by rfl, ?_⟩) ?_ ?_
 rotate_left
 ·intro w'
  go_simp
  with_reducible rfl
 rotate_left
 ·simp only [Act.put, sB, i64_w, i32_w]
  rfl
 refine take_ (i := 1) (N := (some 6)) (v := ?_) (a' := ?_) #[true, true, true, false, false, true, false, true, false, false, true, false, true, false, false, true, false, true, false, false, false, false, false] rfl rfl (take_ofW HT_.out HW_.out (by kernel_rfl)) (fun _ _ _ h => h) (Or.inl ⟨by rfl, ?_⟩) hHeld ?_ ?_
 rotate_left
 ·rintro w' ⟨s0, s1, s2, s3, s4, s5, s6, s7⟩
  go_simp
  with_reducible rfl
 rotate_left
 ·simp only [Act.put, sB, i64_w, i32_w]
  rfl
 refine take_ (i := 3) (N := (some 8)) (v := ?_) (a' := ?_) #[true, true, true, true, false, true, false, true, false, false, true, false, true, false, false, true, false, true, false, false, false, false, false] rfl rfl (take_ofW HT_.out HW_.out (by kernel_rfl)) (fun _ _ _ h => h) (Or.inl ⟨by rfl, ?_⟩) hHeld ?_ ?_
 rotate_left
 ·rintro w' ⟨s0, s1, s2, s3, s4, s5, s6, s7⟩
  go_simp
  with_reducible rfl
 rotate_left
 ·simp only [Act.put, sB, i64_w, i32_w]
  rfl
 refine take_ (i := 6) (N := (some 11)) (v := ?_) (a' := ?_) #[true, true, true, true, false, true, true, true, false, false, true, false, true, false, false, true, false, true, false, false, false, false, false] rfl rfl (take_ofW HT_.out HW_.out (by kernel_rfl)) (fun _ _ _ h => h) (Or.inl ⟨by rfl, ?_⟩) hHeld ?_ ?_
 rotate_left
 ·rintro w' ⟨s0, s1, s2, s3, s4, s5, s6, s7⟩
  go_simp
  with_reducible rfl
 rotate_left
 ·simp only [Act.put, sB, i64_w, i32_w]
  rfl
 refine take_ (i := 8) (N := (some 13)) (v := ?_) (a' := ?_) #[true, true, true, true, false, true, true, true, true, false, true, false, true, false, false, true, false, true, false, false, false, false, false] rfl rfl (take_ofW HT_.out HW_.out (by kernel_rfl)) (fun _ _ _ h => h) (Or.inl ⟨by rfl, ?_⟩) hHeld ?_ ?_
 rotate_left
 ·rintro w' ⟨s0, s1, s2, s3, s4, s5, s6, s7⟩
  go_simp
  with_reducible rfl
 rotate_left
 ·simp only [Act.put, sB, i64_w, i32_w]
  rfl
 refine take_ (i := 11) (N := (some 16)) (v := ?_) (a' := ?_) #[true, true, true, true, false, true, true, true, true, false, true, true, true, false, false, true, false, true, false, false, false, false, false] rfl rfl (take_ofW HT_.out HW_.out (by kernel_rfl)) (fun _ _ _ h => h) (Or.inl ⟨by rfl, ?_⟩) hHeld ?_ ?_
 rotate_left
 ·rintro w' ⟨s0, s1, s2, s3, s4, s5, s6, s7⟩
  go_simp
  with_reducible rfl
 rotate_left
 ·simp only [Act.put, sB, i64_w, i32_w]
  rfl
 refine take_ (i := 13) (N := (some 18)) (v := ?_) (a' := ?_) #[true, true, true, true, false, true, true, true, true, false, true, true, true, true, false, true, false, true, false, false, false, false, false] rfl rfl (take_ofW HT_.out HW_.out (by kernel_rfl)) (fun _ _ _ h => h) (Or.inl ⟨by rfl, ?_⟩) hHeld ?_ ?_
 rotate_left
 ·rintro w' ⟨s0, s1, s2, s3, s4, s5, s6, s7⟩
  go_simp
  with_reducible rfl
 rotate_left
 ·simp only [Act.put, sB, i64_w, i32_w]
  rfl
 refine take_ (i := 16) (N := (some 21)) (v := ?_) (a' := ?_) #[true, true, true, true, false, true, true, true, true, false, true, true, true, true, false, true, true, true, false, false, false, false, false] rfl rfl (take_ofW HT_.out HW_.out (by kernel_rfl)) (fun _ _ _ h => h) (Or.inl ⟨by rfl, ?_⟩) hHeld ?_ ?_
 rotate_left
 ·rintro w' ⟨s0, s1, s2, s3, s4, s5, s6, s7⟩
  go_simp
  with_reducible rfl
 rotate_left
 ·simp only [Act.put, sB, i64_w, i32_w]
  rfl
 refine take_ (i := 18) (N := (some 23)) (v := ?_) (a' := ?_) #[true, true, true, true, false, true, true, true, true, false, true, true, true, true, false, true, true, true, true, false, false, false, false] rfl rfl (take_ofW HT_.out HW_.out (by kernel_rfl)) (fun _ _ _ h => h) (Or.inl ⟨by rfl, ?_⟩) hHeld ?_ ?_
 rotate_left
 ·rintro w' ⟨s0, s1, s2, s3, s4, s5, s6, s7⟩
  go_simp
  with_reducible rfl
 rotate_left
 ·simp only [Act.put, sB, i64_w, i32_w]
  rfl
 refine one_ (i := 4) (N := (some 9)) #[true, true, true, true, true, true, true, true, true, false, true, true, true, true, false, true, true, true, true, false, false, false, false] rfl rfl (one_of HT_.out (by kernel_rfl)) (by decide) (fun K hK => ?_)
 refine goes_ Try.func133 (by kernel_rfl) rfl #[.int .i64 x.f0, .int .i64 y.f0] (by rfl) rfl rfl (by simp [Act.eval]) ?_
 refine (compare_calls x.f0 y.f0 wb).mono ?_
 rintro e wc ⟨rfl, rfl⟩
 refine ⟨_, rfl, ?_⟩
 refine hK.out _ _ ⟨(blk_cell BXd.out 0).trans rfl, (blk_cell BXd.out 1).trans rfl, (blk_cell BXd.out 2).trans rfl, (blk_cell BXd.out 3).trans rfl, (blk_cell BYd.out 0).trans rfl, (blk_cell BYd.out 1).trans rfl, (blk_cell BYd.out 2).trans rfl, (blk_cell BYd.out 3).trans rfl⟩ (fun hHeld => ?_)
 clear hK K
 refine norm_ (a' := ?_) ?_ ?_
 rotate_left
 ·show Act.put _ (some 9) _ = _
  simp only [Act.put, sB, i64_w, i32_w]
  rfl
 refine one_ (i := 9) (N := (some 14)) #[true, true, true, true, true, true, true, true, true, true, true, true, true, true, false, true, true, true, true, false, false, false, false] rfl rfl (one_of HT_.out (by kernel_rfl)) (by decide) (fun K hK => ?_)
 refine goes_ Try.func133 (by kernel_rfl) rfl #[.int .i64 x.f1, .int .i64 y.f1] (by rfl) rfl rfl (by simp [Act.eval]) ?_
 refine (compare_calls x.f1 y.f1 wb).mono ?_
 rintro e wc ⟨rfl, rfl⟩
 refine ⟨_, rfl, ?_⟩
 refine hK.out _ _ ⟨(blk_cell BXd.out 0).trans rfl, (blk_cell BXd.out 1).trans rfl, (blk_cell BXd.out 2).trans rfl, (blk_cell BXd.out 3).trans rfl, (blk_cell BYd.out 0).trans rfl, (blk_cell BYd.out 1).trans rfl, (blk_cell BYd.out 2).trans rfl, (blk_cell BYd.out 3).trans rfl⟩ (fun hHeld => ?_)
 clear hK K
 refine norm_ (a' := ?_) ?_ ?_
 rotate_left
 ·show Act.put _ (some 14) _ = _
  simp only [Act.put, sB, i64_w, i32_w]
  rfl
 refine one_ (i := 14) (N := (some 19)) #[true, true, true, true, true, true, true, true, true, true, true, true, true, true, true, true, true, true, true, false, false, false, false] rfl rfl (one_of HT_.out (by kernel_rfl)) (by decide) (fun K hK => ?_)
 refine goes_ Try.func133 (by kernel_rfl) rfl #[.int .i64 x.f2, .int .i64 y.f2] (by rfl) rfl rfl (by simp [Act.eval]) ?_
 refine (compare_calls x.f2 y.f2 wb).mono ?_
 rintro e wc ⟨rfl, rfl⟩
 refine ⟨_, rfl, ?_⟩
 refine hK.out _ _ ⟨(blk_cell BXd.out 0).trans rfl, (blk_cell BXd.out 1).trans rfl, (blk_cell BXd.out 2).trans rfl, (blk_cell BXd.out 3).trans rfl, (blk_cell BYd.out 0).trans rfl, (blk_cell BYd.out 1).trans rfl, (blk_cell BYd.out 2).trans rfl, (blk_cell BYd.out 3).trans rfl⟩ (fun hHeld => ?_)
 clear hK K
 refine norm_ (a' := ?_) ?_ ?_
 rotate_left
 ·show Act.put _ (some 19) _ = _
  simp only [Act.put, sB, i64_w, i32_w]
  rfl
 refine one_ (i := 19) (N := (some 24)) #[true, true, true, true, true, true, true, true, true, true, true, true, true, true, true, true, true, true, true, true, false, false, false] rfl rfl (one_of HT_.out (by kernel_rfl)) (by decide) (fun K hK => ?_)
 refine goes_ Try.func133 (by kernel_rfl) rfl #[.int .i64 x.f3, .int .i64 y.f3] (by rfl) rfl rfl (by simp [Act.eval]) ?_
 refine (compare_calls x.f3 y.f3 wb).mono ?_
 rintro e wc ⟨rfl, rfl⟩
 refine ⟨_, rfl, ?_⟩
 refine hK.out _ _ ⟨(blk_cell BXd.out 0).trans rfl, (blk_cell BXd.out 1).trans rfl, (blk_cell BXd.out 2).trans rfl, (blk_cell BXd.out 3).trans rfl, (blk_cell BYd.out 0).trans rfl, (blk_cell BYd.out 1).trans rfl, (blk_cell BYd.out 2).trans rfl, (blk_cell BYd.out 3).trans rfl⟩ (fun hHeld => ?_)
 clear hK K
 refine norm_ (a' := ?_) ?_ ?_
 rotate_left
 ·show Act.put _ (some 24) _ = _
  simp only [Act.put, sB, i64_w, i32_w]
  rfl
 refine last_ (i := 20) (N := (some 25)) #[true, true, true, true, true, true, true, true, true, true, true, true, true, true, true, true, true, true, true, true, true, false, false] rfl rfl (one_of HT_.out (by kernel_rfl)) (by decide) (fun K hK => ?_)
 refine value_ (w1 := ?_) (v := ?_) (by rfl) rfl ?_ ?_
 rotate_left 2
 ·go_simp
  constructor
  ·rfl
  ·rfl
 refine hK.out _ _ ?_
 clear hK K
 refine norm_ (a' := ?_) ?_ ?_
 rotate_left
 ·show Act.put _ (some 25) _ = _
  simp only [Act.put, sB, i64_w, i32_w]
  rfl
 refine last_ (i := 21) (N := (some 26)) #[true, true, true, true, true, true, true, true, true, true, true, true, true, true, true, true, true, true, true, true, true, true, false] rfl rfl (one_of HT_.out (by kernel_rfl)) (by decide) (fun K hK => ?_)
 refine goes_ Try.func132 (by kernel_rfl) rfl #[.slice (some ⟨wb.heap.size, 0, none⟩) 4 4] (by rfl) rfl rfl (by simp [Act.eval]) ?_
 refine (or4_calls _ _ _ _ _ NZ.out (heap_alloc_new wb _)).mono ?_
 rintro e wc ⟨rfl, rfl⟩
 refine ⟨_, rfl, ?_⟩
 refine hK.out _ _ ?_
 clear hK K
 refine norm_ (a' := ?_) ?_ ?_
 rotate_left
 ·show Act.put _ (some 26) _ = _
  simp only [Act.put, sB, i64_w, i32_w]
  rfl
 refine pure_ (i := 22) (N := (some 4)) (v := ?_) (a' := ?_) #[true, true, true, true, true, true, true, true, true, true, true, true, true, true, true, true, true, true, true, true, true, true, true] rfl rfl (any_of HT_.out (by kernel_rfl)) (fun _ _ _ h => h) (Or.inl ⟨by rfl, ?_⟩) ?_ ?_
 rotate_left
 ·intro w'
  go_simp
  with_reducible rfl
 rotate_left
 ·simp only [Act.put, sB, i64_w, i32_w]
  rfl
 refine done_ (done_of HT_.out (by kernel_rfl)) ?_
 try go_wp2
 go_ret
 exact ⟨rfl, below_alloc HBd.out _⟩
end Go.Proofs.Ytalimpniimgheaa.Fn
