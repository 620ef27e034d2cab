/- Part of the proof of JournalWords: see the last text. (Words laid by the print, as far as they are named here; walks written by a program of this project; plain laws.) -/
import Derived.Test.YtalimpniimgheaaJournalWordsZ0
namespace Go.Proofs.Ytalimpniimgheaa.Fn
open Go.RowKit Go.Proofs.YtalimpniimgheaaW.PrintWords Go.Proofs.YtalimpniimgheaaW.PrintLast Go.Proofs.YtalimpniimgheaaW.PrintMore
abbrev bn := @blk_drewN
abbrev bd := @blk_drew
abbrev asd := @Aside0.mk
abbrev wa := @below_alloc
abbrev wn := @pw_below_drewN
abbrev wd := @below_drew1
theorem sB : (∀ (l : List Value) (i : Nat) (a : Value), l.toArray.setIfInBounds i a = (l.set i a).toArray) ∧ (∀ (a b : Value) (l : List Value), (a :: l).set 0 b = b :: l) ∧ (∀ (a b : Value) (l : List Value) (n : Nat), (a :: l).set (n + 1) b = a :: l.set n b) := ⟨fun _ _ _ => List.setIfInBounds_toArray .., fun _ _ _ => rfl, fun _ _ _ _ => rfl⟩
end Go.Proofs.Ytalimpniimgheaa.Fn

namespace Go.Proofs.Ytalimpniimgheaa.Fn
open Go.RowKit Go.Proofs.YtalimpniimgheaaW.PrintWords Go.Proofs.YtalimpniimgheaaW.PrintLast Go.Proofs.YtalimpniimgheaaW.PrintMore
attribute [local go_sem] max2_int min2_int max_two min_two max_three min_three max_four min_four
set_option linter.unusedVariables false
set_option linter.unusedSimpArgs false
def errW : Option Int → Value
 | none => .nilIface
 | some c => .iface 0 (.int .i64 c)
theorem errW_none : errW none = .nilIface := rfl
theorem errW_some (c : Int) : errW (some c) = .iface 0 (.int .i64 c) := rfl
theorem info65 : (Try.prog.info? 65).map (fun i => (i.zero, i.size, i.bytes)) = some (some (.agg #[(.int .i64 0), (.int .i64 0), (.int .i64 0), (.int .i64 0)]), 4, 32) := by kernel_rfl
structure S65 where
 f0 : Int
 f1 : Int
 f2 : Int
 f3 : Int
def z65 : S65 := ⟨(0 : Int), (0 : Int), (0 : Int), (0 : Int)⟩
def k65 : Kd S65 := Kd.iso (Kd.pair (Kd.int .i64) (Kd.pair (Kd.int .i64) (Kd.pair (Kd.int .i64) (Kd.int .i64)))) (fun x : S65 => (x.f0, x.f1, x.f2, x.f3))
theorem k65_open {w : World} {x : S65} {cs : List Value} (h : k65.K w x cs) : cs = [.int .i64 x.f0, .int .i64 x.f1, .int .i64 x.f2, .int .i64 x.f3] := by
 obtain ⟨_, _, rfl, rfl, ⟨_, _, rfl, rfl, ⟨_, _, rfl, rfl, rfl⟩⟩⟩ := h
 exact rfl
theorem k65_mk (w : World) (x : S65)  : k65.K w x [.int .i64 x.f0, .int .i64 x.f1, .int .i64 x.f2, .int .i64 x.f3] := ⟨[.int .i64 x.f0], [.int .i64 x.f1, .int .i64 x.f2, .int .i64 x.f3], rfl, rfl, ⟨[.int .i64 x.f1], [.int .i64 x.f2, .int .i64 x.f3], rfl, rfl, ⟨[.int .i64 x.f2], [.int .i64 x.f3], rfl, rfl, rfl⟩⟩⟩
theorem k65_mkM (w : World) (base : Nat) (ok : Nat → Prop) (x : S65)  : k65.M w base ok x [.int .i64 x.f0, .int .i64 x.f1, .int .i64 x.f2, .int .i64 x.f3] := ⟨[.int .i64 x.f0], [.int .i64 x.f1, .int .i64 x.f2, .int .i64 x.f3], rfl, rfl, ⟨[.int .i64 x.f1], [.int .i64 x.f2, .int .i64 x.f3], rfl, rfl, ⟨[.int .i64 x.f2], [.int .i64 x.f3], rfl, rfl, rfl⟩⟩⟩
def rd_T65 (xs : List S65) (i : Int) : S65 := xs.getD i.toNat z65
theorem at_T65 {w : World} {A : Option Addr} {n : Nat} {xs : List S65} (h : Kd.C k65 w A n xs) (i : Int) (h0 : 0 ≤ i) (h1 : i < n) : ∃ ad , A = some ad ∧ w.cell? (ad.add (i.toNat * 4)) = some (.int .i64 (rd_T65 xs i).f0) ∧ w.cell? ⟨(ad.add (i.toNat * 4)).block, (ad.add (i.toNat * 4)).off + 1, none⟩ = some (.int .i64 (rd_T65 xs i).f1) ∧ w.cell? ⟨(ad.add (i.toNat * 4)).block, (ad.add (i.toNat * 4)).off + 2, none⟩ = some (.int .i64 (rd_T65 xs i).f2) ∧ w.cell? ⟨(ad.add (i.toNat * 4)).block, (ad.add (i.toNat * 4)).off + 3, none⟩ = some (.int .i64 (rd_T65 xs i).f3) := by
 obtain ⟨ad, c, e, _, hK, hc0⟩ := Kd.C_get h z65 i h0 h1
 have hc : ∀ j u, c[j]? = some u → w.cell? (ad.add (i.toNat * 4 + j)) = some u := hc0
 obtain rfl := k65_open hK
 exact ⟨ad, e, hc 0 _ rfl, by rw [← add_field _ _ 1 (by omega)]; exact hc 1 _ rfl, by rw [← add_field _ _ 2 (by omega)]; exact hc 2 _ rfl, by rw [← add_field _ _ 3 (by omega)]; exact hc 3 _ rfl⟩
structure S64 where
 f0 : Int
 f1 : Int
 f2 : Int
 f3 : Int
def z64 : S64 := ⟨(0 : Int), (0 : Int), (0 : Int), (0 : Int)⟩
def k64 : Kd S64 := Kd.iso (Kd.pair (Kd.int .i64) (Kd.pair (Kd.int .i64) (Kd.pair (Kd.int .i64) (Kd.int .i64)))) (fun x : S64 => (x.f0, x.f1, x.f2, x.f3))
theorem k64_open {w : World} {x : S64} {cs : List Value} (h : k64.K w x cs) : cs = [.int .i64 x.f0, .int .i64 x.f1, .int .i64 x.f2, .int .i64 x.f3] := by
 obtain ⟨_, _, rfl, rfl, ⟨_, _, rfl, rfl, ⟨_, _, rfl, rfl, rfl⟩⟩⟩ := h
 exact rfl
def rd_T64 (xs : List S64) (i : Int) : S64 := xs.getD i.toNat z64
theorem at_T64 {w : World} {A : Option Addr} {n : Nat} {xs : List S64} (h : Kd.C k64 w A n xs) (i : Int) (h0 : 0 ≤ i) (h1 : i < n) : ∃ ad , A = some ad ∧ w.cell? (ad.add (i.toNat * 4)) = some (.int .i64 (rd_T64 xs i).f0) ∧ w.cell? ⟨(ad.add (i.toNat * 4)).block, (ad.add (i.toNat * 4)).off + 1, none⟩ = some (.int .i64 (rd_T64 xs i).f1) ∧ w.cell? ⟨(ad.add (i.toNat * 4)).block, (ad.add (i.toNat * 4)).off + 2, none⟩ = some (.int .i64 (rd_T64 xs i).f2) ∧ w.cell? ⟨(ad.add (i.toNat * 4)).block, (ad.add (i.toNat * 4)).off + 3, none⟩ = some (.int .i64 (rd_T64 xs i).f3) := by
 obtain ⟨ad, c, e, _, hK, hc0⟩ := Kd.C_get h z64 i h0 h1
 have hc : ∀ j u, c[j]? = some u → w.cell? (ad.add (i.toNat * 4 + j)) = some u := hc0
 obtain rfl := k64_open hK
 exact ⟨ad, e, hc 0 _ rfl, by rw [← add_field _ _ 1 (by omega)]; exact hc 1 _ rfl, by rw [← add_field _ _ 2 (by omega)]; exact hc 2 _ rfl, by rw [← add_field _ _ 3 (by omega)]; exact hc 3 _ rfl⟩
structure S97 where
 f0 : Int
 f1 : Int
 f2 : Int
 f3 : Int
def z97 : S97 := ⟨(0 : Int), (0 : Int), (0 : Int), (0 : Int)⟩
def k97 : Kd S97 := Kd.iso (Kd.pair (Kd.int .i64) (Kd.pair (Kd.int .i64) (Kd.pair (Kd.int .i64) (Kd.int .i64)))) (fun x : S97 => (x.f0, x.f1, x.f2, x.f3))
def rd_T97 (xs : List S97) (i : Int) : S97 := xs.getD i.toNat z97
structure S110 where
 f0 : Int
 f1 : Int
 f2 : Int
 f3 : Int
def z110 : S110 := ⟨(0 : Int), (0 : Int), (0 : Int), (0 : Int)⟩
def k110 : Kd S110 := Kd.iso (Kd.pair (Kd.int .i64) (Kd.pair (Kd.int .i64) (Kd.pair (Kd.int .i64) (Kd.int .i64)))) (fun x : S110 => (x.f0, x.f1, x.f2, x.f3))
def rd_T110 (xs : List S110) (i : Int) : S110 := xs.getD i.toNat z110
def rd_L7 (xs : List (List S64)) (i : Int) : (List S64) := xs.getD i.toNat ([] : List S64)
structure S67 where
 f0 : Int
 f1 : S65
def z67 : S67 := ⟨(0 : Int), z65⟩
def k67 : Kd S67 := Kd.iso (Kd.pair (Kd.int .i64) k65) (fun x : S67 => (x.f0, x.f1))
def rd_T67 (xs : List S67) (i : Int) : S67 := xs.getD i.toNat z67
structure S117 where
 f0 : Int
 f1 : S64
def z117 : S117 := ⟨(0 : Int), z64⟩
def k117 : Kd S117 := Kd.iso (Kd.pair (Kd.int .i64) k64) (fun x : S117 => (x.f0, x.f1))
def rd_T117 (xs : List S117) (i : Int) : S117 := xs.getD i.toNat z117
def rd_L10 (xs : List (List S65)) (i : Int) : (List S65) := xs.getD i.toNat ([] : List S65)
def rd_L11 (xs : List (List S97)) (i : Int) : (List S97) := xs.getD i.toNat ([] : List S97)
end Go.Proofs.Ytalimpniimgheaa.Fn
namespace Go.Proofs.Ytalimpniimgheaa.Fn
open Go.RowKit Go.Proofs.YtalimpniimgheaaW.PrintWords Go.Proofs.YtalimpniimgheaaW.PrintLast Go.Proofs.YtalimpniimgheaaW.PrintMore
set_option linter.unusedVariables false
set_option linter.unusedSimpArgs false
def Opens (P : Program) (t : TypeId) {α : Type} (d : Kd α) (Q : α → Prop) : Prop :=
 ∀ (H : Type) (enc : TypeId × Value → H) (w : World) (base : Nat) (spare : Nat → Bool) (held : Bool) (fuel : Nat) (cs : List Value) (x : DataW H × List MemPlace),
  DataW.trod enc P w base spare held fuel t cs = some x → ∃ a : α, d.K w a cs ∧ Q a
def qInt (k : IntKind) (n : Int) : Prop := (Lit.int k n).wf = true
def qAny {α : Type} (_ : α) : Prop := True
def qStr (s : ByteArray) : Prop := s.size ≤ maxLen
def qList {α : Type} (Q : α → Prop) (xs : List α) : Prop := xs.length ≤ maxLen ∧ ∀ x ∈ xs, Q x
theorem opens_int {P : Program} {t : TypeId} {k : IntKind} (ht : P.underlying t = some (.int k)) : Opens P t (Kd.int k) (qInt k) := by
 intro H enc w base spare held fuel cs x h
 obtain ⟨n, e, _, hw⟩ := DataW.trod_int ht h
 exact ⟨n, e, hw⟩
theorem list_of {α : Type} {p : Nat → α → Prop} : ∀ n, (∀ i, i < n → ∃ a, p i a) → ∃ xs : List α, xs.length = n ∧ ∀ i a, xs[i]? = some a → p i a
 | 0, _ => ⟨[], rfl, fun i a h => by simp at h⟩
 | n + 1, h => by
  obtain ⟨xs, hl, hx⟩ := list_of n (fun i hi => h i (by omega))
  obtain ⟨a, ha⟩ := h n (by omega)
  refine ⟨xs ++ [a], by simp [hl], fun i b hb => ?_⟩
  rcases Nat.lt_trichotomy i n with hi | hi | hi
  ·rw [List.getElem?_append_left (by omega)] at hb
   exact hx i b hb
  ·subst hi
   rw [← hl] at hb
   simp at hb
   subst hb
   rw [hl] at *
   exact ha
  ·rw [List.getElem?_eq_none (by simp [hl]; omega)] at hb
   cases hb
theorem opens_slice {P : Program} {t e : TypeId} {α : Type} {d : Kd α} {Q : α → Prop} (ht : P.underlying t = some (.slice e)) (hc : P.cellsOf e = d.sz) (ho : Opens P e d Q) : Opens P t (Kd.slice e d) (qList Q) := by
 intro H enc w base spare held fuel cs x h
 rcases Go.Deep.open_slice ht h with ⟨rfl, _⟩ | ⟨a, len, cap, m, n, D, Pl, rfl, _, hl, hm, hmm, _, hx⟩
 ·exact ⟨[], ⟨none, 0, rfl, Nat.le_refl _, Kd.C_nil _ _⟩, by simp, fun x hx => by cases hx⟩
 ·have hlm : len ≤ m := by rw [hmm]; split <;> omega
  obtain ⟨xs, hxl, hxs⟩ := list_of (p := fun i a' => ∃ cs', w.cells? base (a.add (i * P.cellsOf e)) (P.cellsOf e) = some cs' ∧ d.K w a' cs' ∧ Q a') len (fun i hi => by
   obtain ⟨cs', h1, h2⟩ := hx i (by omega)
   obtain ⟨a', h3, h4⟩ := ho H enc w base spare held n cs' _ h2
   exact ⟨a', cs', h1, h3, h4⟩)
  refine ⟨xs, ⟨some a, cap, by rw [hxl], by omega, ?_⟩, by omega, fun x hx => ?_⟩
  ·refine ⟨rfl, by rw [hxl]; unfold maxLen at hm; omega, fun _ => ⟨a, rfl, ?_⟩⟩
   intro j p hp
   obtain ⟨cs', h1, h2, _⟩ := hxs j p hp
   obtain ⟨_, hcl, hci⟩ := World.cells?_some h1
   refine ⟨cs', by rw [hcl, hc], h2, fun i u hu => ?_⟩
   have hi : i < cs'.length := (List.getElem?_eq_some_iff.1 hu).1
   have h4 := hci i (by omega)
   rw [hu, Go.Deep.add_add, hc] at h4
   exact h4
  ·obtain ⟨i, hi, rfl⟩ := List.mem_iff_getElem.1 hx
   obtain ⟨_, _, _, hq⟩ := hxs i _ (List.getElem?_eq_getElem hi)
   exact hq
end Go.Proofs.Ytalimpniimgheaa.Fn
namespace Go.Proofs.Ytalimpniimgheaa.Fn
open Go.RowKit Go.Proofs.YtalimpniimgheaaW.PrintWords Go.Proofs.YtalimpniimgheaaW.PrintLast Go.Proofs.YtalimpniimgheaaW.PrintMore
set_option linter.unusedVariables false
set_option linter.unusedSimpArgs false
structure Chg (S : Nat → Prop) (w w' : World) : Prop where
 os : w'.os = w.os
 tape : w'.tape = w.tape
 output : w'.output = w.output
 size : w.heap.size ≤ w'.heap.size
 block : ∀ k, k < w.heap.size → ¬ S k → w'.heap[k]? = w.heap[k]?
section
variable {S S2 : Nat → Prop} {w w1 w2 : World} {B : Nat}
theorem Chg.refl (S : Nat → Prop) (w : World) : Chg S w w := ⟨rfl, rfl, rfl, Nat.le_refl _, fun _ _ _ => rfl⟩
theorem Chg.then_ (h : Chg S w w1) (k : Chg S2 w1 w2) (hs : ∀ k, S2 k → S k ∨ w.heap.size ≤ k) : Chg S w w2 :=
 ⟨k.os.trans h.os, k.tape.trans h.tape, k.output.trans h.output, Nat.le_trans h.size k.size, fun i hi hn => (k.block i (Nat.lt_of_lt_of_le hi h.size) (fun h2 => (hs i h2).elim hn (fun h3 => by omega))).trans (h.block i hi hn)⟩
theorem Chg.trans (h : Chg S w w1) (k : Chg S w1 w2) : Chg S w w2 := h.then_ k (fun _ h => .inl h)
theorem Chg.mono (h : Chg S w w1) (hs : ∀ k, S k → S2 k) : Chg S2 w w1 := ⟨h.os, h.tape, h.output, h.size, fun i hi hn => h.block i hi (fun hk => hn (hs i hk))⟩
theorem Chg.of_below (h : Below w.heap.size w w1) (S : Nat → Prop) : Chg S w w1 := ⟨h.os, h.tape, h.output, h.size, fun i hi _ => h.block i hi⟩
theorem Chg.to_below (h : Chg S w w1) (hS : ∀ k, S k → B ≤ k) (hB : B ≤ w.heap.size) : Below B w w1 := ⟨h.os, h.tape, h.output, h.size, fun k hk => h.block k (by omega) (fun hs => by have := hS k hs; omega)⟩
theorem Chg.below (h : Chg S w w1) (k : Below w1.heap.size w1 w2) : Chg S w w2 := h.then_ (Chg.of_below k (fun _ => False)) (fun _ hk => hk.elim)
theorem Chg.alloc (h : Chg S w w1) (o : Obj) : Chg S w (w1.alloc o) := h.below (below_alloc (Below.refl _ _) o)
theorem Chg.drew (h : Chg S w w1) : Chg S w w1.drew := ⟨h.os, h.tape, h.output, h.size, h.block⟩
theorem Chg.drewN (h : Chg S w w1) (n : Nat) : Chg S w (w1.drewN n) := ⟨h.os, h.tape, h.output, h.size, h.block⟩
theorem Chg.set_ (h : Chg S w w1) {p : Addr} (hp : S p.block ∨ w.heap.size ≤ p.block) (u : Value) : Chg S w (w1.setCell p u) :=
 h.then_ (S2 := fun k => k = p.block) ⟨rfl, rfl, rfl, by simp [World.setCell], fun i _ hn => Below.heap_setCell w1 p u i hn⟩ (fun k hk => by rw [hk]; exact hp)
theorem Chg.grown (h : Chg S w w1) {row : Option Nat} (hg : w1.grownBy w2 row) (hr : ∀ k, row = some k → S k ∨ w.heap.size ≤ k) : Chg S w w2 :=
 h.then_ (S2 := fun k => row = some k) ⟨hg.os, hg.tape, hg.output, hg.size, fun i hi hn => hg.block i hi (fun he => hn he.symm)⟩ hr
def OfTypes (ts : List Nat) (w : World) (S : Nat → Prop) : Prop := ∀ k, S k → k < w.heap.size → ∃ t cells, t ∈ ts ∧ w.heap[k]? = some (.cells cells t (0, 0))
theorem C_ofR {α : Type} {d : Kd α} {e base n c : Nat} {ok : Nat → Prop} {A : Option Addr} {xs : List α} (h : d.R e w base ok (.slice A n c) xs) : d.C w A xs.length xs := (Kd.R_reads' h).2.2
theorem below_drewN1 (w : World) (n : Nat) : Below w.heap.size w (w.drewN n) := pw_below_drewN (Below.refl _ _) n
theorem getD_lt {α : Type} (l : List α) (z : α) {n : Nat} (h : n < l.length) : l.getD n z = l[n] := by simp [List.getD, h]
theorem max2_mx (k k' : IntKind) (x y : Int) : Builtin.max2 (.int k x) (.int k' y) = pure (.int k (mx x y)) := by rw [max2_int]; rfl
theorem min2_mn (k k' : IntKind) (x y : Int) : Builtin.min2 (.int k x) (.int k' y) = pure (.int k (mn x y)) := by rw [min2_int]; rfl
end
end Go.Proofs.Ytalimpniimgheaa.Fn
namespace Go.Proofs.Ytalimpniimgheaa.Fn
open Go.RowKit Go.Proofs.YtalimpniimgheaaW.PrintWords Go.Proofs.YtalimpniimgheaaW.PrintLast Go.Proofs.YtalimpniimgheaaW.PrintMore
set_option linter.unusedVariables false
set_option linter.unusedSimpArgs false
attribute [local go_sem] max2_mx min2_mn max_two min_two
def IsLog (w : World) (base g : Nat) (A : Option Addr) (c : Nat) (xs : List S65) (room lost : Int) : Prop :=
 w.heap[g]? = some (.cells #[.slice A xs.length c, .int .i64 room, .int .i64 lost] 105 (0, 0)) ∧ base ≤ g ∧ k65.R 65 w base (fun k => k ≠ g) (.slice A xs.length c) xs
def IsRef (w : World) (base g : Nat) (A : Option Addr) (c : Nat) (xs : List S64) (room lost : Int) : Prop :=
 w.heap[g]? = some (.cells #[.int .i64 room, .slice A xs.length c, .int .i64 lost] 36 (0, 0)) ∧ base ≤ g ∧ k64.R 64 w base (fun k => k ≠ g) (.slice A xs.length c) xs
def rowS (g : Nat) (A : Option Addr) (k : Nat) : Prop := k = g ∨ ∃ a, A = some a ∧ k = a.block
section
variable {w w1 : World} {base g : Nat} {A : Option Addr} {c : Nat} {xs : List S65} {ys : List S64} {room lost : Int} {S : Nat → Prop}
theorem IsLog.below (h : IsLog w base g A c xs room lost) (hb : Below w.heap.size w w1) : IsLog w1 base g A c xs room lost := ⟨blk_below h.1 hb, h.2.1, Kd.R_below h.2.2 hb⟩
theorem IsRef.below (h : IsRef w base g A c ys room lost) (hb : Below w.heap.size w w1) : IsRef w1 base g A c ys room lost := ⟨blk_below h.1 hb, h.2.1, Kd.R_below h.2.2 hb⟩
theorem IsLog.low (h : IsLog w base g A c xs room lost) : ∀ k, rowS g A k → base ≤ k := by
 rintro k (rfl | ⟨a, rfl, rfl⟩)
 ·exact h.2.1
 ·exact Kd.R_base h.2.2 a.block (by simp [Value.ownBlock])
theorem IsRef.low (h : IsRef w base g A c ys room lost) : ∀ k, rowS g A k → base ≤ k := by
 rintro k (rfl | ⟨a, rfl, rfl⟩)
 ·exact h.2.1
 ·exact Kd.R_base h.2.2 a.block (by simp [Value.ownBlock])
end
def roomOf (r : Int) : Int := mn (mx r 0) 65536
set_option maxHeartbeats 2000000 in
set_option maxRecDepth 100000 in
theorem jnew_calls (r : Int) (w : World) : Calls Try.prog 15 #[.int .i64 r] w fun e w' => e = .returned (.pointer (some ⟨w.heap.size, 0, none⟩)) ∧ IsLog w' w.heap.size w.heap.size none 0 [] (roomOf r) 0 ∧ Below w.heap.size w w' := by
 have hu := Try.underlying105
 go_enter Try.func15, Try.ntmps15
 go_wp2
 go_ret
 exact ⟨rfl, ⟨heap_alloc_new _ _, Nat.le_refl _, Kd.R_nil _ _ _ _ _⟩, below_alloc (Below.refl _ _) _⟩
section
variable {base g : Nat} {A : Option Addr} {c : Nat} {xs : List S65} {room lost : Int}
set_option maxHeartbeats 2000000 in
set_option maxRecDepth 100000 in
theorem len_calls (w : World) (h : IsLog w base g A c xs room lost) : Calls Try.prog 20 #[.pointer (some ⟨g, 0, none⟩)] w fun e w' => e = .returned (.int .i64 xs.length) ∧ w = w' := by
 have hu := Try.underlying105
 have hx0 := (blk_cell h.1 0).trans rfl
 clear h
 go_enter Try.func20, Try.ntmps20
 go_wp2
 go_ret
 simp
set_option maxHeartbeats 2000000 in
set_option maxRecDepth 100000 in
theorem lost_calls (w : World) (h : IsLog w base g A c xs room lost) : Calls Try.prog 21 #[.pointer (some ⟨g, 0, none⟩)] w fun e w' => e = .returned (.int .i64 lost) ∧ w = w' := by
 have hu := Try.underlying105
 have hx0 := (blk_cell h.1 2).trans rfl
 clear h
 go_enter Try.func21, Try.ntmps21
 go_wp2
 go_ret
 simp
end
set_option maxHeartbeats 2000000 in
set_option maxRecDepth 100000 in
theorem len_nil (w : World) : Calls Try.prog 20 #[.pointer none] w fun e w' => e = .returned (.int .i64 0) ∧ w = w' := by
 go_enter Try.func20, Try.ntmps20
 go_wp2
 go_ret
 simp
set_option maxHeartbeats 2000000 in
set_option maxRecDepth 100000 in
theorem lost_nil (w : World) : Calls Try.prog 21 #[.pointer none] w fun e w' => e = .returned (.int .i64 0) ∧ w = w' := by
 go_enter Try.func21, Try.ntmps21
 go_wp2
 go_ret
 simp
set_option maxHeartbeats 2000000 in
set_option maxRecDepth 100000 in
theorem all_nil (w : World) : Calls Try.prog 24 #[.pointer none] w fun e w' => e = .returned (.slice none 0 0) ∧ w = w' := by
 go_enter Try.func24, Try.ntmps24
 go_wp2
 go_ret
 simp
set_option maxHeartbeats 2000000 in
set_option maxRecDepth 100000 in
theorem add_nil (v : Value) (w : World) : Calls Try.prog 17 #[.pointer none, v] w fun e w' => e = .returned (.int .i64 0) ∧ w = w' := by
 go_enter Try.func17, Try.ntmps17
 go_wp2
 go_ret
 simp
end Go.Proofs.Ytalimpniimgheaa.Fn
namespace Go.Proofs.Ytalimpniimgheaa.Fn
open Go.RowKit Go.Proofs.YtalimpniimgheaaW.PrintWords Go.Proofs.YtalimpniimgheaaW.PrintLast Go.Proofs.YtalimpniimgheaaW.PrintMore
set_option linter.unusedVariables false
set_option linter.unusedSimpArgs false
attribute [local go_sem] max2_mx min2_mn max_two min_two
def IdxOf {α : Type} (p : α → Bool) (xs : List α) (z : α) (r : Int) : Prop := (r = -1 ∧ ∀ k, k < xs.length → p (xs.getD k z) = false) ∨ ∃ k : Nat, k < xs.length ∧ r = (k : Int) ∧ p (xs.getD k z) = true ∧ ∀ j, j < k → p (xs.getD j z) = false
structure Mid {α : Type} (p : α → Bool) (xs zs : List α) (i j : Nat) : Prop where
 len : zs.length = xs.length
 lt : i < j
 le : j ≤ xs.length
 kept : zs.take i = (xs.take j).filter (fun x => !p x)
 rest : zs.drop j = xs.drop j
section
variable (A : Option Addr) (c : Nat) (xs : List S65) (bx : Addr) (p : S65 → Bool)
set_option maxHeartbeats 4000000 in
set_option maxRecDepth 100000 in
theorem idx69_calls (w : World) (h : k65.C w A xs.length xs) (hl : xs.length ≤ 100000) (hp : ∀ wr x, Below w.heap.size w wr → Calls Try.prog 69 #[.agg #[.int .i64 x.f0, .int .i64 x.f1, .int .i64 x.f2, .int .i64 x.f3], .pointer (some bx)] wr fun e w' => e = .returned (.bool (p x)) ∧ Below wr.heap.size wr w') :
  Calls Try.prog 109 #[.slice A xs.length c, .func (.func 69) #[] #[.pointer (some bx)]] w fun e w' => ∃ r, e = .returned (.int .i64 r) ∧ IdxOf p xs z65 r ∧ Below w.heap.size w w' := by
 have hu := Try.underlying65
 have HC := asd h
 have HP := asd hp
 have HL := asd hl
 clear h hp hl
 go_enter Try.func109, Try.ntmps109
 go_wp2
 go_loopw [8] (fun v wr => ∃ i : Nat, v = .int .i64 i ∧ Aside0 (i ≤ xs.length ∧ ∀ j, j < i → p (xs.getD j z65) = false) ∧ Aside0 (Below w.heap.size w wr)) (fun v _ => xs.length - (intOf v).toNat)
 case atStart => exact ⟨0, rfl, ⟨by omega, fun j hj => by omega⟩, ⟨Below.refl _ _⟩⟩
 case round =>
  obtain ⟨i, rfl, HX, HB⟩ := hrel
  have h99 : (xs.length : Int) ≤ 100000 := by have := HL.out; omega
  by_cases hlt : i < xs.length
  ·have q0 : ((i : Int) < (xs.length : Int)) = True := eq_true (by omega)
   have q1 : decide ((i : Int) < (xs.length : Int)) = true := decide_eq_true (by omega)
   have q2 : decide (i < xs.length) = true := decide_eq_true hlt
   obtain ⟨ad, rfl, y0, y1, y2, y3⟩ := at_T65 (Kd.C_below HC.out HB.out) (i : Int) (by omega) (by omega)
   simp only [Int.toNat_natCast] at y0 y1 y2 y3
   have HR : Aside0 (rd_T65 xs (i : Int) = xs.getD i z65) := ⟨by unfold rd_T65; rw [Int.toNat_natCast]⟩
   generalize rd_T65 xs (i : Int) = x at *
   have HPX := asd (fun wr hb2 => HP.out wr x hb2)
   cases hb : p x with
   | true =>
    rw [hb] at HPX
    have HT : Aside0 (p (xs.getD i z65) = true) := ⟨by rw [← HR.out]; exact hb⟩
    clear hb HR
    go_wp2_with (first | (go_at_call 69; refine (HPX.out _ HB.out).mono ?_; rintro e w1 ⟨rfl, hb⟩; have HB1 := asd (below_step HB.out hb); clear hb))
    go_ret
    exact ⟨_, rfl, .inr ⟨i, hlt, rfl, HT.out, HX.out.2⟩, HB1.out⟩
   | false =>
    rw [hb] at HPX
    have HT : Aside0 (p (xs.getD i z65) = false) := ⟨by rw [← HR.out]; exact hb⟩
    clear hb HR
    go_wp2_with (first | (go_at_call 69; refine (HPX.out _ HB.out).mono ?_; rintro e w1 ⟨rfl, hb⟩; have HB1 := asd (below_step HB.out hb); clear hb))
    go_roundw
    case rel => exact ⟨i + 1, by go_num, ⟨by omega, fun j hj => by
     rcases Nat.lt_or_ge j i with h1 | h1
     ·exact HX.out.2 j h1
     ·rw [show j = i by omega]; exact HT.out⟩, HB1⟩
    case measure => simp [intOf]; omega
  ·have q1 : decide ((i : Int) < (xs.length : Int)) = false := decide_eq_false (by omega)
   have q2 : decide (i < xs.length) = false := decide_eq_false hlt
   have e : i = xs.length := by have := HX.out.1; omega
   subst e
   clear hlt
   go_wp2
   go_ret
   exact ⟨-1, rfl, .inl ⟨rfl, HX.out.2⟩, HB.out⟩
end
section
variable (g c : Nat) (xs : List S65) (bx : Addr) (p : S65 → Bool)
end
end Go.Proofs.Ytalimpniimgheaa.Fn
namespace Go.Proofs.Ytalimpniimgheaa.Fn
open Go.RowKit Go.Proofs.YtalimpniimgheaaW.PrintWords Go.Proofs.YtalimpniimgheaaW.PrintLast Go.Proofs.YtalimpniimgheaaW.PrintMore
set_option linter.unusedVariables false
set_option linter.unusedSimpArgs false
attribute [local go_sem] max2_mx min2_mn max_two min_two
theorem pol_int {w : World} {A : Option Addr} {n : Nat} {ys : List Int} (h : Kd.C (Kd.int .i64) w A n ys) (i : Int) (h0 : 0 ≤ i) (h1 : i < n) : ∃ ad, A = some ad ∧ w.cell? (ad.add i.toNat) = some (.int .i64 (ys.getD i.toNat 0)) := by
 obtain ⟨ad, cc, rfl, _, hK, hc0⟩ := Kd.C_get h 0 i h0 h1
 have ee : cc = [.int .i64 (ys.getD i.toNat 0)] := hK
 subst ee
 refine ⟨ad, rfl, ?_⟩
 have h := hc0 0 _ rfl
 rwa [show i.toNat * (Kd.int .i64).sz + 0 = i.toNat from Nat.mul_one _] at h
theorem idx_any {α : Type} {p : α → Bool} {xs : List α} {z : α} {r : Int} (h : IdxOf p xs z r) : decide (r ≥ 0) = xs.any p := by
 rcases h with ⟨rfl, hall⟩ | ⟨k, hk, rfl, ht, _⟩
 ·symm
  rw [show decide ((-1 : Int) ≥ 0) = false from rfl, List.any_eq_false]
  intro x hx
  obtain ⟨k, hk, rfl⟩ := List.mem_iff_getElem.1 hx
  have := hall k hk
  rw [getD_lt xs z hk] at this
  simp [this]
 ·symm
  rw [decide_eq_true (by omega), List.any_eq_true]
  exact ⟨xs[k], List.getElem_mem hk, by rw [getD_lt xs z hk] at ht; exact ht⟩
set_option maxHeartbeats 8000000 in
set_option maxRecDepth 100000 in
theorem clone67_calls (A0 : Option Addr) (c0 : Nat) (l0 : List S65) (w : World) (hr0 : Kd.C k65 w A0 l0.length l0) (hl : l0.length < 4398046511104) :
  Calls Try.prog 67 #[.slice A0 l0.length c0] w fun e w' => ∃ v0_ : Value, e = .returned (v0_) ∧ Kd.R k65 65 w' w.heap.size (fun _ => True) v0_ l0 ∧ Below w.heap.size w w' := by
 have HR0 := asd hr0
 have HC1 := asd hl
 clear hr0 hl
 have hq := fun (w : World) (a : Option Addr) n c => Lib.run_eql_slice_nil (P := Try.prog) w 31 65 a n c 0 0 Try.underlying31
 cases A0 with
 | none =>
  have e0 : l0 = [] := by
   rcases Nat.eq_zero_or_pos l0.length with h0 | h0
   ·exact List.eq_nil_of_length_eq_zero h0
   ·obtain ⟨ad, h, _⟩ := HR0.out.2.2 h0; cases h
  subst e0
  go_enter Try.func67, Try.ntmps67
  go_wp2
  go_ret
  exact ⟨_, rfl, Kd.R_nil _ _ _ _ _, Below.refl _ _⟩
 | some ad =>
  go_enter Try.func67, Try.ntmps67
  go_wp2_with (first | ((with_reducible refine gate_dst (N := 5) rfl ?_); refine Kd.R_lit k65 _ 65 ?hg (N := 5) ?hd (xs := ([] : List S65)) (inner := []) (ok := fun _ => True) (okp := fun _ => True) ?hr ?hp (fun _ hk => hk) trivial (Below.refl _ _) (Nat.le_refl _) (by simp) ?_; (case hd => rfl); (case hg => rfl); (case hr => first | (go_simp; done) | (go_simp; rfl)); (case hp => exact (Reps.none _ _)); intro v1 w1 ho hb hg hat; have HO := asd ho; have HB := asd hb; clear ho hb hg hat) | ((with_reducible refine gate_builtin (b := .append) (xs := #[.tmp 5, .tmp 6]) rfl ?_); at_builtin; refine Kd.R_append_rows k65 (w0 := w) w.heap.size rfl (.tmp 5) (.tmp 6) 31 65 (.agg #[.int .i64 0, .int .i64 0, .int .i64 0, .int .i64 0]) 32 rfl Try.underlying31 info65 rfl (by decide) (by omega) v1 [] l0 _ _ _ (fun _ => True) (fun _ => False) rfl rfl ?aO ?aR (fun _ _ h => h) (fun _ h => h.elim) ?aF ?aB ?aS ?aL ?_; (case aR => exact Kd.C_below HR0.out HB.out); (case aB => exact HB.out); (case aF => exact (fun _ _ => trivial)); (case aO => exact HO.out); (case aS => exact HB.out.size); (case aL => have := HC1.out; simp only [List.length_nil]; omega); intro v2 w2 ho2 hb2 hg2 hat2; have HO2 := asd ho2; have HB2 := asd hb2; clear ho2 hb2 hg2 hat2))
  go_ret
  exact ⟨_, rfl, HO2.out, HB2.out⟩
section
variable {base g : Nat} {A : Option Addr} {c : Nat} {xs : List S65} {room lost : Int}
set_option maxHeartbeats 2000000 in
set_option maxRecDepth 100000 in
theorem all_calls (w : World) (h : IsLog w base g A c xs room lost) (hl : xs.length ≤ 100000) : Calls Try.prog 24 #[.pointer (some ⟨g, 0, none⟩)] w fun e w' => ∃ v, e = .returned v ∧ Kd.R k65 65 w' w.heap.size (fun _ => True) v xs ∧ Below w.heap.size w w' := by
 have hu := Try.underlying105
 have hx0 := (blk_cell h.1 0).trans rfl
 have CL := asd (clone67_calls A c xs w (C_ofR h.2.2) (by omega))
 clear h hl
 go_enter Try.func24, Try.ntmps24
 go_wp2_with (first | (go_at_call 67; refine CL.out.mono ?_; rintro e w1 ⟨v, rfl, ho, hb⟩; have HO := asd ho; have HB := asd hb; clear ho hb))
 go_ret
 exact ⟨_, rfl, HO.out, HB.out⟩
end
section
variable (A : Option Addr) (c : Nat) (ks : List Int) (x : Int)
set_option maxHeartbeats 4000000 in
set_option maxRecDepth 100000 in
theorem index110_calls (w : World) (h : (Kd.int .i64).C w A ks.length ks) (hl : ks.length ≤ 100000) :
  Calls Try.prog 110 #[.slice A ks.length c, .int .i64 x] w fun e w' => ∃ r, e = .returned (.int .i64 r) ∧ IdxOf (fun y => decide (x = y)) ks 0 r ∧ w = w' := by
 have HC := asd h
 have HL := asd hl
 clear h hl
 go_enter Try.func110, Try.ntmps110
 go_wp2
 go_loop [8] (fun v => ∃ i : Nat, v = .int .i64 i ∧ Aside0 (i ≤ ks.length ∧ ∀ j, j < i → decide (x = ks.getD j 0) = false)) (fun v => ks.length - (intOf v).toNat)
 case atStart => exact ⟨0, rfl, ⟨by omega, fun j hj => by omega⟩⟩
 case round =>
  obtain ⟨i, rfl, HX⟩ := hrel
  have h99 : (ks.length : Int) ≤ 100000 := by have := HL.out; omega
  by_cases hlt : i < ks.length
  ·have q0 : ((i : Int) < (ks.length : Int)) = True := eq_true (by omega)
   have q1 : decide ((i : Int) < (ks.length : Int)) = true := decide_eq_true (by omega)
   have q2 : decide (i < ks.length) = true := decide_eq_true hlt
   obtain ⟨ad, rfl, y0⟩ := pol_int HC.out (i : Int) (by omega) (by omega)
   simp only [Int.toNat_natCast] at y0
   by_cases he : x = ks.getD i 0
   ·have HT : Aside0 (decide (x = ks.getD i 0) = true) := ⟨decide_eq_true he⟩
    have hb : (x == ks.getD i 0) = true := beq_iff_eq.2 he
    have hd : decide (x = ks.getD i 0) = true := decide_eq_true he
    generalize ks.getD i 0 = y at y0 hb hd
    clear he
    go_wp2
    go_ret
    exact ⟨_, rfl, .inr ⟨i, hlt, rfl, HT.out, HX.out.2⟩, rfl⟩
   ·have HT : Aside0 (decide (x = ks.getD i 0) = false) := ⟨decide_eq_false he⟩
    have hb : (x == ks.getD i 0) = false := beq_eq_false_iff_ne.2 he
    have hd : decide (x = ks.getD i 0) = false := decide_eq_false he
    generalize ks.getD i 0 = y at y0 hb hd
    clear he
    go_wp2
    go_round
    case rel => exact ⟨i + 1, by go_num, ⟨by omega, fun j hj => by
     rcases Nat.lt_or_ge j i with h1 | h1
     ·exact HX.out.2 j h1
     ·rw [show j = i by omega]; exact HT.out⟩⟩
    case measure => simp [intOf]; omega
  ·have q1 : decide ((i : Int) < (ks.length : Int)) = false := decide_eq_false (by omega)
   have q2 : decide (i < ks.length) = false := decide_eq_false hlt
   have e : i = ks.length := by have := HX.out.1; omega
   subst e
   clear hlt
   go_wp2
   go_ret
   exact ⟨-1, rfl, .inl ⟨rfl, HX.out.2⟩, rfl⟩
set_option maxHeartbeats 4000000 in
set_option maxRecDepth 100000 in
theorem contains70_calls (w : World) (h : (Kd.int .i64).C w A ks.length ks) (hl : ks.length ≤ 100000) :
  Calls Try.prog 70 #[.slice A ks.length c, .int .i64 x] w fun e w' => e = .returned (.bool (ks.any (fun y => decide (x = y)))) ∧ w = w' := by
 have IX := asd (index110_calls A c ks x w h hl)
 clear h hl
 go_enter Try.func70, Try.ntmps70
 go_wp2_with (first | (go_at_call 110; refine IX.out.mono ?_; rintro e w1 ⟨r, rfl, hr, rfl⟩; have HR := asd hr; clear hr))
 go_ret
 exact ⟨by rw [← idx_any HR.out]; rfl, rfl⟩
set_option maxHeartbeats 4000000 in
set_option maxRecDepth 100000 in
theorem clos69_calls (bx : Addr) (e : S65) (w : World) (hb : w.cell? bx = some (.slice A ks.length c)) (h : (Kd.int .i64).C w A ks.length ks) (hl : ks.length ≤ 100000) :
  Calls Try.prog 69 #[.agg #[.int .i64 e.f0, .int .i64 e.f1, .int .i64 e.f2, .int .i64 e.f3], .pointer (some bx)] w fun r w' => r = .returned (.bool (!(ks.any (fun y => decide (e.f1 = y))))) ∧ Below w.heap.size w w' := by
 have hu := Try.underlying65
 have CT := asd (fun w' (hbb : Below w.heap.size w w') => contains70_calls A c ks e.f1 w' (Kd.C_below h hbb) hl)
 clear h hl
 have hb2 := pw_cell_below (below_alloc (Below.refl _ _) (.cells #[.int .i64 e.f0, .int .i64 e.f1, .int .i64 e.f2, .int .i64 e.f3] 65)) hb
 go_enter Try.func69, Try.ntmps69
 go_wp2_with (first | (go_at_call 70; refine (CT.out _ (below_alloc (Below.refl _ _) _)).mono ?_; rintro r w1 ⟨rfl, rfl⟩))
 go_ret
 exact ⟨rfl, below_alloc (Below.refl _ _) _⟩
end
set_option maxHeartbeats 4000000 in
set_option maxRecDepth 100000 in
theorem del69_nil (bx : Addr) (p : S65 → Bool) (w : World) (hp : ∀ wr x, Below w.heap.size w wr → Calls Try.prog 69 #[.agg #[.int .i64 x.f0, .int .i64 x.f1, .int .i64 x.f2, .int .i64 x.f3], .pointer (some bx)] wr fun e w' => e = .returned (.bool (p x)) ∧ Below wr.heap.size wr w') :
  Calls Try.prog 68 #[.slice none 0 0, .func (.func 69) #[] #[.pointer (some bx)]] w fun e w' => e = .returned (.slice none 0 0) ∧ Below w.heap.size w w' := by
 have IDX := asd (idx69_calls none 0 ([] : List S65) bx p w (Kd.C_nil k65 w) (by simp) hp)
 clear hp
 go_enter Try.func68, Try.ntmps68
 go_wp2_with fail
 refine IDX.out.mono ?_
 rintro e w1 ⟨r, rfl, hr, hb⟩
 have HB := asd hb
 clear hb IDX
 rcases hr with ⟨rfl, hall⟩ | ⟨k, hk, rfl, ht, hall⟩
 ·clear hall
  go_wp2
  go_ret
  exact ⟨rfl, HB.out⟩
 ·simp at hk
section
variable {base g : Nat} {A : Option Addr} {c : Nat} {xs : List S65} {room lost : Int} {K : Option Addr} {d : Nat} {ks : List Int}
def ofKinds (ks : List Int) (xs : List S65) : List S65 := xs.filter (fun x => ks.any (fun y => decide (x.f1 = y)))
end
end Go.Proofs.Ytalimpniimgheaa.Fn
namespace Go.Proofs.Ytalimpniimgheaa.Fn
open Go.RowKit Go.Proofs.YtalimpniimgheaaW.PrintWords Go.Proofs.YtalimpniimgheaaW.PrintLast Go.Proofs.YtalimpniimgheaaW.PrintMore
set_option linter.unusedVariables false
set_option linter.unusedSimpArgs false
attribute [local go_sem] max2_mx min2_mn max_two min_two
def jadd4T : Bool × List (List Nat × List Nat) := (true, [([], []), ([], []), ([1], [1]), ([2], [2]), ([3], [3]), ([], []), ([], []), ([5, 6], [5, 6]), ([4, 7], [4, 7]), ([0, 0, 1, 2, 3, 4, 5, 6, 7, 8], [0]), ([9, 0, 1, 2, 3, 4, 5, 6, 7, 8], [9]), ([10, 8, 8, 0, 1, 2, 3, 4, 5, 6, 7, 8], [8, 10])])
def jadd4B : List Nat := [0, 0, 2, 6, 14, 0, 0, 96, 254, 511, 1023, 2047]
theorem jadd4_tab : rtab .any (opsOf Try.f17 4) = jadd4T := by kernel_rfl
theorem jadd4_bits : waitsOk jadd4T.2 jadd4B = true := by kernel_rfl
theorem own_some {A : Option Addr} {n c k : Nat} (h : (Value.slice A n c).ownBlock = some k) : ∃ a, A = some a ∧ k = a.block := by
 cases A with
 | none => simp [Value.ownBlock] at h
 | some a => exact ⟨a, rfl, by simpa [Value.ownBlock] using h.symm⟩
section
variable {base g : Nat} {A : Option Addr} {c : Nat} {xs : List S65} {lost : Int} {E : Option Addr} {d : Nat} {es : List S65} {room : Nat}
set_option maxHeartbeats 8000000 in
set_option maxRecDepth 100000 in
theorem add_calls (w : World) (h : IsLog w base g A c xs room lost) (he : k65.C w E es.length es) (hr : room ≤ 65536) (hx : xs.length ≤ room) (hl : es.length ≤ 1000) (h0 : 0 ≤ lost) (h9 : lost ≤ 100000) (hd : es.length ≤ d) :
  Calls Try.prog 17 #[.pointer (some ⟨g, 0, none⟩), .slice E es.length d] w fun e w' => ∃ A' c', e = .returned (.int .i64 (min es.length (room - xs.length) : Nat)) ∧ IsLog w' base g A' c' (xs ++ es.take (min es.length (room - xs.length))) room (lost + (es.length - min es.length (room - xs.length) : Nat)) ∧ Chg (rowS g A) w w' ∧ (∀ k, rowS g A' k → rowS g A k ∨ w.heap.size ≤ k) := by
 have hu := Try.underlying105
 have hu2 := Try.underlying31
 have hu3 := Try.underlying65
 generalize hk : min es.length (room - xs.length) = kk
 have hmn : mn (es.length : Int) ((room : Int) - (xs.length : Int)) = (kk : Int) := by unfold mn; split <;> omega
 have hw1 : IntKind.i64.wrap ((room : Int) - (xs.length : Int)) = (room : Int) - (xs.length : Int) := by rw [i64_w]; unfold wrap64; omega
 have hw2 : IntKind.i64.wrap ((es.length : Int) - (kk : Int)) = (es.length : Int) - (kk : Int) := by rw [i64_w]; unfold wrap64; omega
 have hw3 : IntKind.i64.wrap (lost + ((es.length : Int) - (kk : Int))) = lost + ((es.length : Int) - (kk : Int)) := by rw [i64_w]; unfold wrap64; omega
 have BP := asd h.1
 have HO := asd h.2.2
 have HG := asd h.2.1
 have HR := asd he
 have HC := asd (Chg.refl (rowS g A) w)
 have KB := asd (show kk ≤ es.length by omega)
 have LB := asd (show xs.length ≤ 65536 ∧ kk ≤ 1000 by omega)
 have p0 : (0 ≤ (kk : Int)) = True := eq_true (by omega)
 have p1 : ((kk : Int) ≤ (d : Int)) = True := eq_true (by omega)
 have hx0 := (blk_cell BP.out 0).trans rfl
 have hx1 := (blk_cell BP.out 1).trans rfl
 have hx2 := (blk_cell BP.out 2).trans rfl
 clear h he hk hl hr hx
 go_enter Try.func17, Try.ntmps17
 go_wp2
 go_quiet (fail)
 go_wp2
 have BP3 := asd (blk_drewN BP.out nq)
 have HO3 := asd (Kd.R_drewN HO.out nq)
 have HR3 := asd (Kd.C_below HR.out (below_drewN1 _ nq))
 have HC3 := asd (HC.out.drewN nq)
 have HSZ : Aside0 (w.heap.size ≤ (w.drewN nq).heap.size) := ⟨by simp⟩
 have HL : Aside0 (base ≤ (w.drewN nq).heap.size) := ⟨by have := blk_lt BP3.out; have := HG.out; omega⟩
 clear BP HO HR HC hx0 hx1 hx2
 generalize w.drewN nq = w3 at BP3 HO3 HR3 HC3 HL HSZ ⊢
 have BP := BP3
 have HO := HO3
 have HR := HR3
 have HC := HC3
 clear BP3 HO3 HR3 HC3
 refine start_ (n := 12) (S := fun w' => w'.cell? ⟨g, 0, none⟩ = some (.slice A xs.length c)) (ds := [11]) #[false, false, false, false, false, false, false, false, false, false, false, false] (by kernel_rfl) rfl rfl ((blk_cell BP.out 0).trans rfl) (fun hHeld => ?_); refine with_tabW jadd4_tab jadd4_bits (fun HT_ HW_ => ?_)
 have BP2 := asd (blk_drew BP.out)
 have HO2 := asd (Kd.R_drew HO.out)
 have HR2 := asd (Kd.C_below HR.out (below_drew1 (Below.refl _ _)))
 have HC2 := asd (HC.out.drew)
 have HL2 : Aside0 (base ≤ w3.drew.heap.size) := ⟨HL.out⟩
 have HSZ2 : Aside0 (w.heap.size ≤ w3.drew.heap.size) := ⟨HSZ.out⟩
 clear BP HO HR HC HL HSZ
 have HL := HL2
 have HSZ := HSZ2
 clear HL2 HSZ2
 generalize w3.drew = w25 at BP2 HO2 HR2 HC2 HL HSZ hHeld ⊢
 refine pure_ (i := 0) (N := (some 21)) (v := ?_) (a' := ?_) #[true, false, false, false, false, false, false, false, false, false, false, false] rfl rfl (any_of HT_.out (by kernel_rfl)) (fun _ _ _ h => h) (Or.inl ⟨by rfl, ?_⟩) ?_ ?_
 rotate_left
 ·intro w'
  go_simp
  with_reducible rfl
 rotate_left
 ·simp only [Act.put, sB, i64_w, i32_w]
  rfl
 refine pure_ (i := 1) (N := (some 22)) (v := ?_) (a' := ?_) #[true, true, false, false, false, false, false, false, false, false, false, false] rfl rfl (any_of HT_.out (by kernel_rfl)) (fun _ _ _ h => h) (Or.inl ⟨by rfl, ?_⟩) ?_ ?_
 rotate_left
 ·intro w'
  go_simp
  with_reducible rfl
 rotate_left
 ·simp only [Act.put, sB, i64_w, i32_w]
  rfl
 refine pure_ (i := 2) (N := (some 23)) (v := ?_) (a' := ?_) #[true, true, true, false, false, false, false, false, false, false, false, false] rfl rfl (any_of HT_.out (by kernel_rfl)) (fun _ _ _ h => h) (Or.inl ⟨by rfl, ?_⟩) ?_ ?_
 rotate_left
 ·intro w'
  go_simp
  with_reducible rfl
 rotate_left
 ·simp only [Act.put, sB, i64_w, i32_w]
  rfl
 refine pure_ (i := 3) (N := (some 24)) (v := ?_) (a' := ?_) #[true, true, true, true, false, false, false, false, false, false, false, false] rfl rfl (any_of HT_.out (by kernel_rfl)) (fun _ _ _ h => h) (Or.inl ⟨by rfl, ?_⟩) ?_ ?_
 rotate_left
 ·intro w'
  go_simp
  with_reducible rfl
 rotate_left
 ·simp only [Act.put, sB, i64_w, i32_w]
  rfl
 refine take_ (i := 4) (N := (some 25)) (v := ?_) (a' := ?_) #[true, true, true, true, true, false, false, false, false, false, false, false] rfl rfl (take_ofW HT_.out HW_.out (by kernel_rfl)) (fun _ _ _ h => h) (Or.inl ⟨by rfl, ?_⟩) hHeld ?_ ?_
 rotate_left
 ·rintro w' s0
  go_simp
  with_reducible rfl
 rotate_left
 ·simp only [Act.put, sB, i64_w, i32_w]
  rfl
 refine pure_ (i := 5) (N := (some 26)) (v := ?_) (a' := ?_) #[true, true, true, true, true, true, false, false, false, false, false, false] rfl rfl (any_of HT_.out (by kernel_rfl)) (fun _ _ _ h => h) (Or.inl ⟨by rfl, ?_⟩) ?_ ?_
 rotate_left
 ·intro w'
  go_simp
  with_reducible rfl
 rotate_left
 ·simp only [Act.put, sB, i64_w, i32_w]
  rfl
 refine pure_ (i := 6) (N := (some 27)) (v := ?_) (a' := ?_) #[true, true, true, true, true, true, true, false, false, false, false, false] rfl rfl (any_of HT_.out (by kernel_rfl)) (fun _ _ _ h => h) (Or.inl ⟨by rfl, ?_⟩) ?_ ?_
 rotate_left
 ·intro w'
  go_simp
  with_reducible rfl
 rotate_left
 ·simp only [Act.put, sB, i64_w, i32_w]
  rfl
 refine pure_ (i := 7) (N := (some 28)) (v := ?_) (a' := ?_) #[true, true, true, true, true, true, true, true, false, false, false, false] rfl rfl (any_of HT_.out (by kernel_rfl)) (fun _ _ _ h => h) (Or.inl ⟨by rfl, ?_⟩) ?_ ?_
 rotate_left
 ·intro w'
  go_simp
  with_reducible rfl
 rotate_left
 ·simp only [Act.put, sB, i64_w, i32_w]
  rfl
 refine one_ (i := 8) (N := (some 29)) #[true, true, true, true, true, true, true, true, true, false, false, false] rfl rfl (one_of HT_.out (by kernel_rfl)) (by decide) (fun K hK => ?_)
 refine Kd.R_append_rows_step k65 (Rr := k65.K w25) (w0 := w25) base (by rfl) (.tmp 25) (.tmp 28) 31 65 (.agg #[.int .i64 0, .int .i64 0, .int .i64 0, .int .i64 0]) 32 rfl Try.underlying31 info65 rfl (by decide) (by omega) (.slice A xs.length c) xs (es.take kk) E kk d (fun k => k ≠ g) (fun _ => False) rfl rfl HO2.out (by have h := Kd.C_take HR2.out KB.out; rw [List.length_take, Nat.min_eq_left KB.out] at h; exact h) (fun x cs h => by rw [k65_open h]; exact k65_mkM _ _ _ _) (fun _ hk => hk.elim) (fun k hk => by have := blk_lt BP2.out; omega) (Below.refl _ _) HL.out (by have := LB.out; omega) ?_
 intro v9 w9 ho hb hgr hat
 have BP9 := asd (blk_grown BP2.out hgr (Kd.R_ne HO2.out BP2.out (by decide)))
 have HC9 := asd (HC2.out.grown hgr (fun k hk => .inl (.inr (own_some hk))))
 have HO9 := asd ho
 have AT9 := asd hat
 clear ho hb hgr hat BP2 HO2 HR2 HC2
 obtain ⟨A9, c9, rfl⟩ := Kd.R_slice HO9.out
 generalize hL : (xs ++ List.take kk es).length = L at HO9 ⊢
 have HLL := asd hL
 clear hL
 refine hK.out _ _ ((blk_cell BP9.out 0).trans rfl) (fun hHeld => ?_)
 clear hK K
 refine norm_ (a' := ?_) ?_ ?_
 rotate_left
 ·show Act.put _ (some 29) _ = _
  simp only [Act.put, sB, i64_w, i32_w]
  rfl
 refine pure_ (i := 9) (N := (some 30)) (v := ?_) (a' := ?_) #[true, true, true, true, true, true, true, true, true, true, false, false] rfl rfl (any_of HT_.out (by kernel_rfl)) (fun _ _ _ h => h) (Or.inl ⟨by rfl, ?_⟩) ?_ ?_
 rotate_left
 ·intro w'
  go_simp
  with_reducible rfl
 rotate_left
 ·simp only [Act.put, sB, i64_w, i32_w]
  rfl
 refine pure_ (i := 10) (N := (some 31)) (v := ?_) (a' := ?_) #[true, true, true, true, true, true, true, true, true, true, true, false] rfl rfl (any_of HT_.out (by kernel_rfl)) (fun _ _ _ h => h) (Or.inl ⟨by rfl, ?_⟩) ?_ ?_
 rotate_left
 ·intro w'
  go_simp
  with_reducible rfl
 rotate_left
 ·simp only [Act.put, sB, i64_w, i32_w]
  rfl
 refine last_ (i := 11) (N := none) #[true, true, true, true, true, true, true, true, true, true, true, true] rfl rfl (one_of HT_.out (by kernel_rfl)) (by decide) (fun K hK => ?_)
 have hs28 := (blk_cell BP9.out 0).trans rfl
 have hfs28 := blk_frozen BP9.out 0
 refine skip_ (w1 := ?_) (by rfl) rfl ?_ ?_
 rotate_left
 ·go_simp
  rfl
 refine hK.out _ _ ?_
 clear hK K
 refine done_ (done_of HT_.out (by kernel_rfl)) ?_
 have BPa := asd (blk_set BP9.out 0 (.slice A9 L c9))
 have HOa := asd (Kd.R_far HO9.out (p := ⟨g, 0, none⟩) (fun k hk => hk) (.slice A9 L c9))
 have HCa := asd (HC9.out.set_ (p := ⟨g, 0, none⟩) (.inl (.inl rfl)) (.slice A9 L c9))
 clear BP9 HO9 HC9 hs28 hfs28 hHeld
 generalize w9.setCell ⟨g, 0, none⟩ (.slice A9 L c9) = wa at BPa HOa HCa ⊢
 have hy2 := (blk_cell BPa.out 2).trans rfl
 have hf2 := blk_frozen BPa.out 2
 go_wp2
 go_ret
 refine ⟨A9, c9, rfl, ⟨?_, HG.out, by rw [HLL.out]; exact Kd.R_far HOa.out (p := ⟨g, 2, none⟩) (fun k hk => hk) _⟩, HCa.out.set_ (p := ⟨g, 2, none⟩) (.inl (.inl rfl)) _, ?_⟩
 ·have h2 := blk_set BPa.out 2 (.int .i64 (lost + ((es.length : Int) - (kk : Int))))
  rw [HLL.out, show ((es.length - kk : Nat) : Int) = (es.length : Int) - (kk : Int) by have := KB.out; omega]
  exact h2
 ·rintro k (rfl | ⟨a, rfl, rfl⟩)
  ·exact .inl (.inl rfl)
  ·rcases AT9.out with h1 | ⟨b, h1, h2⟩
   ·refine .inl (.inr ?_)
    exact own_some (h1.symm.trans (by simp [Value.ownBlock]))
   ·have h3 : a.block = b := by simpa [Value.ownBlock] using h1
    exact .inr (by rw [h3]; exact Nat.le_trans HSZ.out h2)
end
end Go.Proofs.Ytalimpniimgheaa.Fn
namespace Go.Proofs.Ytalimpniimgheaa.Fn
open Go.RowKit Go.Proofs.YtalimpniimgheaaW.PrintWords Go.Proofs.YtalimpniimgheaaW.PrintLast Go.Proofs.YtalimpniimgheaaW.PrintMore
set_option linter.unusedVariables false
set_option linter.unusedSimpArgs false
attribute [local go_sem] max2_mx min2_mn max_two min_two
def radd6T : Bool × List (List Nat × List Nat) := (true, [([], []), ([], []), ([1], [1]), ([2], [2]), ([3], [3]), ([], []), ([], []), ([5, 6], [5, 6]), ([7], [7]), ([8], [8]), ([4, 9], [4, 9]), ([0, 0, 1, 2, 3, 4, 5, 6, 7, 8, 9, 10], [0]), ([11, 0, 1, 2, 3, 4, 5, 6, 7, 8, 9, 10], [11]), ([12, 10, 10, 0, 1, 2, 3, 4, 5, 6, 7, 8, 9, 10], [10, 12])])
def radd6B : List Nat := [0, 0, 2, 6, 14, 0, 0, 96, 224, 480, 1022, 2047, 4095, 8191]
section
variable {g : Nat} {A : Option Addr} {c : Nat} {ys : List S64} {lost : Int} {E : Option Addr} {d : Nat} {es : List S64} {room : Nat}
end
end Go.Proofs.Ytalimpniimgheaa.Fn
namespace Go.Proofs.Ytalimpniimgheaa.Fn
open Go.RowKit Go.Proofs.YtalimpniimgheaaW.PrintWords Go.Proofs.YtalimpniimgheaaW.PrintLast Go.Proofs.YtalimpniimgheaaW.PrintMore
set_option linter.unusedVariables false
set_option linter.unusedSimpArgs false
attribute [local go_sem] max2_mx min2_mn max_two min_two
def refKinds (ks : List Int) (ys : List S64) : List S64 := ys.filter (fun x => ks.any (fun y => decide (y = x.f1)))
section
variable {base g : Nat} {A : Option Addr} {c : Nat} {ys : List S64} {room lost : Int} {K : Option Addr} {d : Nat} {ks : List Int}
end
end Go.Proofs.Ytalimpniimgheaa.Fn
namespace Go.Proofs.Ytalimpniimgheaa.Fn
open Go.RowKit Go.Proofs.YtalimpniimgheaaW.PrintWords Go.Proofs.YtalimpniimgheaaW.PrintLast Go.Proofs.YtalimpniimgheaaW.PrintMore
attribute [local go_sem] max2_int min2_int max_two min_two max_three min_three max_four min_four
set_option linter.unusedVariables false
set_option linter.unusedSimpArgs false
def parcloselaw23_owns.l0 : Nat → List (S64) → List (S65) → Int → Option ((List (S65)))
 | 0, _, _, _ => none
 | k + 1, x0, x3, x4 => if x4 < (x0.length : Int) then (if 0 ≤ x4 then (if x3.length < 4398046511104 then (parcloselaw23_owns.l0 k x0 (x3 ++ [(⟨(rd_T64 x0 x4).f0, (rd_T64 x0 x4).f1, (rd_T64 x0 x4).f2, (rd_T64 x0 x4).f3⟩ : S65)]) (wrap64 (x4 + 1))) else (none)) else (none)) else (some x3)
def parcloselaw23_owns.f (k : Nat) (l0 : List (S64)) : Option ((List (S65))) := parcloselaw23_owns.l0 k l0 ([] : List (S65)) 0
set_option maxHeartbeats 8000000 in
set_option maxRecDepth 100000 in
theorem parcloselaw23_owns.calls (k : Nat) (A0 : Option Addr) (c0 : Nat) (l0 : List (S64)) (r : List (S65)) (w : World) (hr0 : Kd.C k64 w A0 l0.length l0) (hc0 : l0.length ≤ c0) (h : parcloselaw23_owns.f k l0 = some r) :
  Calls Try.prog 18 #[.slice A0 l0.length c0] w fun e w' => ∃ v0_ : Value, e = .returned (v0_) ∧ Kd.R k65 65 w' w.heap.size (fun _ => True) v0_ r ∧ Below w.heap.size w w' := by
 have hu64 := Try.underlying64
 have HR0 := asd hr0
 have HC0 := asd hc0
 clear hr0 hc0
 have HB := asd (Below.refl w.heap.size w)
 have H : (parcloselaw23_owns.l0 k l0 ([] : List (S65)) 0) = some r := h
 clear h
 have H' := asd H
 clear H
 go_enter Try.func18, Try.ntmps18
 go_wp2
 go_loopg [3, 4] k (fun kq v3 v4 w' => ∃ (x3_1 : List (S65)) (x4_1 : Int), v4 = .int .i64 x4_1 ∧ Aside0 (parcloselaw23_owns.l0 kq l0 x3_1 x4_1 = some r) ∧ Aside0 (kq ≤ k) ∧ Aside0 (Kd.R k65 65 w' w.heap.size (fun _ => True) v3 x3_1) ∧ Aside0 (Below w.heap.size w w'))
 case atStart => exact ⟨(([] : List (S65))), (0), (by first | rfl | (simp; done) | (simp [*]; done)), H', ⟨Nat.le_refl _⟩, ⟨by first | exact Kd.R_nil _ _ _ _ _ | exact Kd.N_nil _ _ _ _ _ | exact Kd.V_nil _ _ _ _ _ | exact Kd.Q_nil _ _ _ _ _ | exact Kd.S_nil _ _ _ _ _⟩, ⟨by repeat (first | (with_reducible first | exact HB.out | apply wa | apply wn | apply wd) | exact HB.out)⟩⟩
 case round =>
  clear H'
  try clear c1
  obtain ⟨x3_1, x4_1, rfl, HA, HK1, HO_3, HB⟩ := hrel
  cases gk with
  | zero => exact absurd HA.out (by simp [parcloselaw23_owns.l0])
  | succ k1 =>
   have H := HA.out
   clear HA
   simp only [parcloselaw23_owns.l0] at H
   by_cases c2 : x4_1 < (l0.length : Int)
   ·rw [if_pos c2] at H
    have c2b0 : decide (x4_1 < (l0.length : Int)) = true := decide_eq_true c2
    clear c2
    by_cases c3 : 0 ≤ x4_1
    ·rw [if_pos c3] at H
     have c3b0 : decide (0 ≤ x4_1) = true := decide_eq_true c3
     clear c3
     by_cases c4 : x3_1.length < 4398046511104
     ·rw [if_pos c4] at H
      have LMc4 := asd c4
      clear c4
      obtain ⟨y112, hy112⟩ : ∃ y_ : List (S65), y_ = (x3_1 ++ [(⟨(rd_T64 l0 x4_1).f0, (rd_T64 l0 x4_1).f1, (rd_T64 l0 x4_1).f2, (rd_T64 l0 x4_1).f3⟩ : S65)]) := ⟨_, rfl⟩
      replace H : (parcloselaw23_owns.l0 k1 l0 y112 (wrap64 (x4_1 + 1))) = some r := by first | (rw [hy112]; with_reducible exact H) | (have H2_ := (Option.bind_some _ _).symm.trans H; rw [hy112]; with_reducible exact H2_) | (have H2_ := (Option.bind_some _ _).symm.trans H; with_reducible exact H2_) | with_reducible exact H | (rw [hy112]; exact H) | exact H
      have Ny112 := asd hy112
      clear hy112
      have H' := asd H
      clear H
      have p111 : 0 ≤ (x4_1 : Int) := of_decide_eq_true (by assumption)
      have q111 : x4_1 < (l0.length : Int) := of_decide_eq_true (by assumption)
      obtain ⟨ad111, e111, hx111_0, hx111_1, hx111_2, hx111_3⟩ := at_T64 HR0.out x4_1 p111 q111
      cases e111
      replace hx111_0 := (HB.out.cell (World.block_lt_of_cell? w _ hx111_0)).trans hx111_0
      replace hx111_1 := (HB.out.cell (World.block_lt_of_cell? w _ hx111_1)).trans hx111_1
      replace hx111_2 := (HB.out.cell (World.block_lt_of_cell? w _ hx111_2)).trans hx111_2
      replace hx111_3 := (HB.out.cell (World.block_lt_of_cell? w _ hx111_3)).trans hx111_3
      replace p111 := eq_true p111
      replace q111 := eq_true q111
      go_wp2_with (first | ((with_reducible refine gate_builtin (b := .append) (xs := #[.tmp 11, .tmp 16]) rfl ?_); at_builtin; refine Kd.R_append k65 (w0 := w) w.heap.size rfl (.tmp 11) (.tmp 16) 31 65 (.agg #[(.int .i64 0), (.int .i64 0), (.int .i64 0), (.int .i64 0)]) 32 rfl Try.underlying31 info65 rfl (by decide) (by omega) u3 x3_1 (⟨(rd_T64 l0 x4_1).f0, (rd_T64 l0 x4_1).f1, (rd_T64 l0 x4_1).f2, (rd_T64 l0 x4_1).f3⟩ : S65) [.int .i64 ((rd_T64 l0 x4_1).f0), .int .i64 ((rd_T64 l0 x4_1).f1), .int .i64 ((rd_T64 l0 x4_1).f2), .int .i64 ((rd_T64 l0 x4_1).f3)] (fun _ => True) (fun _ => False) rfl rfl ?aP (fun _ hk => hk.elim) ?aF ?aO ?aB ?aS ?aL ?_; (case aP => exact k65_mkM _ _ _ (⟨(rd_T64 l0 x4_1).f0, (rd_T64 l0 x4_1).f1, (rd_T64 l0 x4_1).f2, (rd_T64 l0 x4_1).f3⟩ : S65)); (case aB => exact (by repeat (first | (with_reducible first | exact HB.out | apply wa | apply wn | apply wd) | exact HB.out))); (case aF => exact (fun _ _ => trivial)); (case aO => exact (by (with_reducible repeat (first | apply Kd.R_alloc | apply Kd.R_drewN | apply Kd.R_drew)); exact HO_3.out)); (case aS => exact (below_size (by repeat (first | (with_reducible first | exact HB.out | apply wa | apply wn | apply wd) | exact HB.out)))); (case aL => have := LMc4.out; omega); intro v113 w5 ho hb hg hat; rw [← Ny112.out] at ho; have n0_ := asd (hb); have n1_ := asd (ho); clear HB; clear HO_3; have HB := n0_; have HO114 := n1_; clear n0_ n1_; clear ho hb hg hat))
      go_roundg k1
      case measure => have := HK1.out; omega
      case rel => exact ⟨(y112), (wrap64 (x4_1 + 1)), (by first | rfl | (simp; done) | (simp [*]; done)), H', ⟨by have := HK1.out; omega⟩, ⟨by (with_reducible repeat (first | apply Kd.R_alloc | apply Kd.R_drewN | apply Kd.R_drew)); exact HO114.out⟩, ⟨by repeat (first | (with_reducible first | exact HB.out | apply wa | apply wn | apply wd) | exact HB.out)⟩⟩
     ·rw [if_neg c4] at H
      exact absurd H (by simp)
    ·rw [if_neg c3] at H
     exact absurd H (by simp)
   ·rw [if_neg c2] at H
    have c2b0 : decide (x4_1 < (l0.length : Int)) = false := decide_eq_false c2
    clear c2
    obtain rfl := Option.some.inj H
    go_wp2
    go_ret
    exact ⟨_, by first | rfl | (simp [*] <;> rfl), by (with_reducible repeat (first | apply Kd.R_alloc | apply Kd.R_drewN | apply Kd.R_drew)); exact HO_3.out, by repeat (first | (with_reducible first | exact HB.out | apply wa | apply wn | apply wd) | exact HB.out)⟩
end Go.Proofs.Ytalimpniimgheaa.Fn
namespace Go.Proofs.Ytalimpniimgheaa.Fn
open Go.RowKit Go.Proofs.YtalimpniimgheaaW.PrintWords Go.Proofs.YtalimpniimgheaaW.PrintLast Go.Proofs.YtalimpniimgheaaW.PrintMore
attribute [local go_sem] max2_int min2_int max_two min_two max_three min_three max_four min_four
set_option linter.unusedVariables false
set_option linter.unusedSimpArgs false
def parcloselaw23_Refs.l0 : Nat → List (S65) → List (S64) → Int → Option ((List (S64)))
 | 0, _, _, _ => none
 | k + 1, x0, x3, x4 => if x4 < (x0.length : Int) then (if 0 ≤ x4 then (if x3.length < 4398046511104 then (parcloselaw23_Refs.l0 k x0 (x3 ++ [(⟨(rd_T65 x0 x4).f0, (rd_T65 x0 x4).f1, (rd_T65 x0 x4).f2, (rd_T65 x0 x4).f3⟩ : S64)]) (wrap64 (x4 + 1))) else (none)) else (none)) else (some x3)
def parcloselaw23_Refs.f (k : Nat) (l0 : List (S65)) : Option ((List (S64))) := parcloselaw23_Refs.l0 k l0 ([] : List (S64)) 0
end Go.Proofs.Ytalimpniimgheaa.Fn
namespace Go.Proofs.Ytalimpniimgheaa.Fn
open Go.RowKit Go.Proofs.YtalimpniimgheaaW.PrintWords Go.Proofs.YtalimpniimgheaaW.PrintLast Go.Proofs.YtalimpniimgheaaW.PrintMore
attribute [local go_sem] max2_int min2_int max_two min_two max_three min_three max_four min_four
set_option linter.unusedVariables false
set_option linter.unusedSimpArgs false
theorem eqA64 (d : Nat) (w : World) (x0 y0 : Int) (x1 y1 : Int) (x2 y2 : Int) (x3 y3 : Int) :
  (Op.equalIn (d + 2) 64 (.agg #[.int .i64 x0, .int .i64 x1, .int .i64 x2, .int .i64 x3]) (.agg #[.int .i64 y0, .int .i64 y1, .int .i64 y2, .int .i64 y3])).run Try.prog w = .ok (x0 == y0 && (x1 == y1 && (x2 == y2 && (x3 == y3)))) w := by
 refine eqA_of Try.underlying64 (by kernel_rfl) ?_
 refine eqf_cons (by rfl) (by go_simp; rfl) (by go_simp; rfl) (by go_simp) ?_
 refine eqf_cons (by rfl) (by go_simp; rfl) (by go_simp; rfl) (by go_simp) ?_
 refine eqf_cons (by rfl) (by go_simp; rfl) (by go_simp; rfl) (by go_simp) ?_
 exact eqf_last (by rfl) (by go_simp; rfl) (by go_simp; rfl) (by go_simp)
end Go.Proofs.Ytalimpniimgheaa.Fn
namespace Go.Proofs.Ytalimpniimgheaa.Fn
open Go.RowKit Go.Proofs.YtalimpniimgheaaW.PrintWords Go.Proofs.YtalimpniimgheaaW.PrintLast Go.Proofs.YtalimpniimgheaaW.PrintMore
attribute [local go_sem] max2_int min2_int max_two min_two max_three min_three max_four min_four
set_option linter.unusedVariables false
set_option linter.unusedSimpArgs false
attribute [local go_sem high] eqA64
def parcloseref23_Same.l0 : Nat → List (S64) → List (S64) → Int → Option (Bool)
 | 0, _, _, _ => none
 | k + 1, x0, x1, x5 => if x5 < (x0.length : Int) then (if 0 ≤ x5 then (if x5 < (x1.length : Int) then (if (!(((rd_T64 x0 x5).f0) == ((rd_T64 x1 x5).f0)) || (!(((rd_T64 x0 x5).f1) == ((rd_T64 x1 x5).f1)) || (!(((rd_T64 x0 x5).f2) == ((rd_T64 x1 x5).f2)) || (!(((rd_T64 x0 x5).f3) == ((rd_T64 x1 x5).f3)))))) = true then (some false) else (parcloseref23_Same.l0 k x0 x1 (wrap64 (x5 + 1)))) else (none)) else (none)) else (some true)
def parcloseref23_Same.f (k : Nat) (l0 : List (S64)) (l1 : List (S64)) : Option (Bool) := if (l0.length : Int) = (l1.length : Int) then (parcloseref23_Same.l0 k l0 l1 0) else (some false)
set_option maxHeartbeats 8000000 in
set_option maxRecDepth 100000 in
theorem parcloseref23_Same.calls (k : Nat) (A0 : Option Addr) (c0 : Nat) (l0 : List (S64)) (A1 : Option Addr) (c1 : Nat) (l1 : List (S64)) (r : Bool) (w : World) (hr0 : Kd.C k64 w A0 l0.length l0) (hc0 : l0.length ≤ c0) (hr1 : Kd.C k64 w A1 l1.length l1) (hc1 : l1.length ≤ c1) (h : parcloseref23_Same.f k l0 l1 = some r) :
  Calls Try.prog 22 #[.slice A0 l0.length c0, .slice A1 l1.length c1] w fun e w' => e = .returned (.bool r) ∧ Drawn0 w w' := by
 have hu64 := Try.underlying64
 have HR0 := asd hr0
 have HC0 := asd hc0
 clear hr0 hc0
 have HR1 := asd hr1
 have HC1 := asd hc1
 clear hr1 hc1
 have H : (if (l0.length : Int) = (l1.length : Int) then (parcloseref23_Same.l0 k l0 l1 0) else (some false)) = some r := h
 clear h
 by_cases c3 : (l0.length : Int) = (l1.length : Int)
 ·rw [if_pos c3] at H
  have c3b0 : ((l0.length : Int) == (l1.length : Int)) = true := beq_iff_eq.mpr c3
  have c3b1 : ((l0.length : Int) != (l1.length : Int)) = false := bne_eq_false_iff_eq.mpr c3
  have c3b2 : (l0.length == l1.length) = true := by first | simpa using c3 | (simp at c3 ⊢; omega)
  clear c3
  have H' := asd H
  clear H
  go_enter Try.func22, Try.ntmps22
  go_wp2
  repeat (go_quiet (fail); try go_wp2)
  go_loopg [5] k (fun kq v5 w' => ∃ (x5_1 : Int), v5 = .int .i64 x5_1 ∧ Aside0 (parcloseref23_Same.l0 kq l0 l1 x5_1 = some r) ∧ Aside0 (kq ≤ k) ∧ Drawn0 w w')
  case atStart => exact ⟨(0), (by first | rfl | (simp; done) | (simp [*]; done)), H', ⟨Nat.le_refl _⟩, by repeat (first | exact Drawn0.refl _ | apply Drawn0.step)⟩
  case round =>
   clear H'
   try clear c1
   try clear c2
   try clear p2
   try clear c3
   try clear c3b0
   try clear c3b1
   try clear c3b2
   obtain ⟨x5_1, rfl, HA, HK1, ⟨m1, rfl⟩⟩ := hrel
   cases gk with
   | zero => exact absurd HA.out (by simp [parcloseref23_Same.l0])
   | succ k1 =>
    have H := HA.out
    clear HA
    simp only [parcloseref23_Same.l0] at H
    by_cases c4 : x5_1 < (l0.length : Int)
    ·rw [if_pos c4] at H
     have c4b0 : decide (x5_1 < (l0.length : Int)) = true := decide_eq_true c4
     clear c4
     by_cases c5 : 0 ≤ x5_1
     ·rw [if_pos c5] at H
      have c5b0 : decide (0 ≤ x5_1) = true := decide_eq_true c5
      clear c5
      by_cases c6 : x5_1 < (l1.length : Int)
      ·rw [if_pos c6] at H
       have c6b0 : decide (x5_1 < (l1.length : Int)) = true := decide_eq_true c6
       clear c6
       by_cases c7 : (!(((rd_T64 l0 x5_1).f0) == ((rd_T64 l1 x5_1).f0)) || (!(((rd_T64 l0 x5_1).f1) == ((rd_T64 l1 x5_1).f1)) || (!(((rd_T64 l0 x5_1).f2) == ((rd_T64 l1 x5_1).f2)) || (!(((rd_T64 l0 x5_1).f3) == ((rd_T64 l1 x5_1).f3)))))) = true
       ·rw [if_pos c7] at H
        have c7b0 : (!(((rd_T64 l0 x5_1).f0) == ((rd_T64 l1 x5_1).f0)) || (!(((rd_T64 l0 x5_1).f1) == ((rd_T64 l1 x5_1).f1)) || (!(((rd_T64 l0 x5_1).f2) == ((rd_T64 l1 x5_1).f2)) || (!(((rd_T64 l0 x5_1).f3) == ((rd_T64 l1 x5_1).f3)))))) = true := c7
        clear c7
        obtain rfl := Option.some.inj H
        have p116 : 0 ≤ (x5_1 : Int) := of_decide_eq_true (by assumption)
        have q116 : x5_1 < (l0.length : Int) := of_decide_eq_true (by assumption)
        obtain ⟨ad116, e116, hx116_0, hx116_1, hx116_2, hx116_3⟩ := at_T64 HR0.out x5_1 p116 q116
        cases e116
        replace p116 := eq_true p116
        replace q116 := eq_true q116
        have p117 : 0 ≤ (x5_1 : Int) := of_decide_eq_true (by assumption)
        have q117 : x5_1 < (l1.length : Int) := of_decide_eq_true (by assumption)
        obtain ⟨ad117, e117, hx117_0, hx117_1, hx117_2, hx117_3⟩ := at_T64 HR1.out x5_1 p117 q117
        cases e117
        replace p117 := eq_true p117
        replace q117 := eq_true q117
        go_wp2
        repeat (go_quiet (fail); try go_wp2)
        go_ret
        exact ⟨by first | rfl | (simp; done) | (simp [*]; done), by repeat (first | exact Drawn0.refl _ | apply Drawn0.step)⟩
       ·rw [if_neg c7] at H
        have c7b0 : (!(((rd_T64 l0 x5_1).f0) == ((rd_T64 l1 x5_1).f0)) || (!(((rd_T64 l0 x5_1).f1) == ((rd_T64 l1 x5_1).f1)) || (!(((rd_T64 l0 x5_1).f2) == ((rd_T64 l1 x5_1).f2)) || (!(((rd_T64 l0 x5_1).f3) == ((rd_T64 l1 x5_1).f3)))))) = false := by simpa using c7
        clear c7
        have H' := asd H
        clear H
        have p116 : 0 ≤ (x5_1 : Int) := of_decide_eq_true (by assumption)
        have q116 : x5_1 < (l0.length : Int) := of_decide_eq_true (by assumption)
        obtain ⟨ad116, e116, hx116_0, hx116_1, hx116_2, hx116_3⟩ := at_T64 HR0.out x5_1 p116 q116
        cases e116
        replace p116 := eq_true p116
        replace q116 := eq_true q116
        have p117 : 0 ≤ (x5_1 : Int) := of_decide_eq_true (by assumption)
        have q117 : x5_1 < (l1.length : Int) := of_decide_eq_true (by assumption)
        obtain ⟨ad117, e117, hx117_0, hx117_1, hx117_2, hx117_3⟩ := at_T64 HR1.out x5_1 p117 q117
        cases e117
        replace p117 := eq_true p117
        replace q117 := eq_true q117
        go_wp2
        repeat (go_quiet (fail); try go_wp2)
        go_roundg k1
        case measure => have := HK1.out; omega
        case rel => exact ⟨(wrap64 (x5_1 + 1)), (by first | rfl | (simp; done) | (simp [*]; done)), H', ⟨by have := HK1.out; omega⟩, by repeat (first | exact Drawn0.refl _ | apply Drawn0.step)⟩
      ·rw [if_neg c6] at H
       exact absurd H (by simp)
     ·rw [if_neg c5] at H
      exact absurd H (by simp)
    ·rw [if_neg c4] at H
     have c4b0 : decide (x5_1 < (l0.length : Int)) = false := decide_eq_false c4
     clear c4
     obtain rfl := Option.some.inj H
     go_wp2
     repeat (go_quiet (fail); try go_wp2)
     go_ret
     exact ⟨by first | rfl | (simp; done) | (simp [*]; done), by repeat (first | exact Drawn0.refl _ | apply Drawn0.step)⟩
 ·rw [if_neg c3] at H
  have c3b0 : ((l0.length : Int) == (l1.length : Int)) = false := beq_eq_false_iff_ne.mpr c3
  have c3b1 : ((l0.length : Int) != (l1.length : Int)) = true := bne_iff_ne.mpr c3
  have c3b2 : (l0.length == l1.length) = false := by first | simpa using c3 | (simp at c3 ⊢; omega)
  obtain rfl := Option.some.inj H
  go_enter Try.func22, Try.ntmps22
  go_wp2
  repeat (go_quiet (fail); try go_wp2)
  go_ret
  exact ⟨by first | rfl | (simp; done) | (simp [*]; done), by repeat (first | exact Drawn0.refl _ | apply Drawn0.step)⟩
end Go.Proofs.Ytalimpniimgheaa.Fn
namespace Go.Proofs.Ytalimpniimgheaa.Fn
open Go.RowKit Go.Proofs.YtalimpniimgheaaW.PrintWords Go.Proofs.YtalimpniimgheaaW.PrintLast Go.Proofs.YtalimpniimgheaaW.PrintMore
attribute [local go_sem] max2_int min2_int max_two min_two max_three min_three max_four min_four
set_option linter.unusedVariables false
set_option linter.unusedSimpArgs false
theorem eqA65 (d : Nat) (w : World) (x0 y0 : Int) (x1 y1 : Int) (x2 y2 : Int) (x3 y3 : Int) :
  (Op.equalIn (d + 2) 65 (.agg #[.int .i64 x0, .int .i64 x1, .int .i64 x2, .int .i64 x3]) (.agg #[.int .i64 y0, .int .i64 y1, .int .i64 y2, .int .i64 y3])).run Try.prog w = .ok (x0 == y0 && (x1 == y1 && (x2 == y2 && (x3 == y3)))) w := by
 refine eqA_of Try.underlying65 (by kernel_rfl) ?_
 refine eqf_cons (by rfl) (by go_simp; rfl) (by go_simp; rfl) (by go_simp) ?_
 refine eqf_cons (by rfl) (by go_simp; rfl) (by go_simp; rfl) (by go_simp) ?_
 refine eqf_cons (by rfl) (by go_simp; rfl) (by go_simp; rfl) (by go_simp) ?_
 exact eqf_last (by rfl) (by go_simp; rfl) (by go_simp; rfl) (by go_simp)
end Go.Proofs.Ytalimpniimgheaa.Fn
namespace Go.Proofs.Ytalimpniimgheaa.Fn
open Go.RowKit Go.Proofs.YtalimpniimgheaaW.PrintWords Go.Proofs.YtalimpniimgheaaW.PrintLast Go.Proofs.YtalimpniimgheaaW.PrintMore
attribute [local go_sem] max2_int min2_int max_two min_two max_three min_three max_four min_four
set_option linter.unusedVariables false
set_option linter.unusedSimpArgs false
attribute [local go_sem high] eqA65
def journal_Entry_77.l0 : Nat → List (S65) → List (S65) → Int → Int → Option (Bool)
 | 0, _, _, _, _ => none
 | k + 1, x0, x1, x12, x13 => if x13 < x12 then (if 0 ≤ x13 then (if x13 < (x0.length : Int) then (if x13 < (x1.length : Int) then (if (!(((rd_T65 x0 x13).f0) == ((rd_T65 x1 x13).f0)) || (!(((rd_T65 x0 x13).f1) == ((rd_T65 x1 x13).f1)) || (!(((rd_T65 x0 x13).f2) == ((rd_T65 x1 x13).f2)) || (!(((rd_T65 x0 x13).f3) == ((rd_T65 x1 x13).f3)))))) = true then (some false) else (journal_Entry_77.l0 k x0 x1 x12 (wrap64 (x13 + 1)))) else (none)) else (none)) else (none)) else (some true)
def journal_Entry_77.f (k : Nat) (l0 : List (S65)) (l1 : List (S65)) : Option (Bool) := if (l0.length : Int) = (l1.length : Int) then (journal_Entry_77.l0 k l0 l1 (l0.length : Int) 0) else (some false)
set_option maxHeartbeats 8000000 in
set_option maxRecDepth 100000 in
theorem journal_Entry_77.calls (k : Nat) (A0 : Option Addr) (c0 : Nat) (l0 : List (S65)) (A1 : Option Addr) (c1 : Nat) (l1 : List (S65)) (r : Bool) (w : World) (hr0 : Kd.C k65 w A0 l0.length l0) (hc0 : l0.length ≤ c0) (hr1 : Kd.C k65 w A1 l1.length l1) (hc1 : l1.length ≤ c1) (h : journal_Entry_77.f k l0 l1 = some r) :
  Calls Try.prog 77 #[.slice A0 l0.length c0, .slice A1 l1.length c1] w fun e w' => e = .returned (.bool r) ∧ Drawn0 w w' := by
 have hu65 := Try.underlying65
 have HR0 := asd hr0
 have HC0 := asd hc0
 clear hr0 hc0
 have HR1 := asd hr1
 have HC1 := asd hc1
 clear hr1 hc1
 have H : (if (l0.length : Int) = (l1.length : Int) then (journal_Entry_77.l0 k l0 l1 (l0.length : Int) 0) else (some false)) = some r := h
 clear h
 by_cases c3 : (l0.length : Int) = (l1.length : Int)
 ·rw [if_pos c3] at H
  have c3b0 : ((l0.length : Int) == (l1.length : Int)) = true := beq_iff_eq.mpr c3
  have c3b1 : ((l0.length : Int) != (l1.length : Int)) = false := bne_eq_false_iff_eq.mpr c3
  have c3b2 : (l0.length == l1.length) = true := by first | simpa using c3 | (simp at c3 ⊢; omega)
  clear c3
  have H' := asd H
  clear H
  go_enter Try.func77, Try.ntmps77
  go_wp2
  repeat (go_quiet (fail); try go_wp2)
  go_loopg [13] k (fun kq v13 w' => ∃ (x13_1 : Int), v13 = .int .i64 x13_1 ∧ Aside0 (journal_Entry_77.l0 kq l0 l1 (l0.length : Int) x13_1 = some r) ∧ Aside0 (kq ≤ k) ∧ Drawn0 w w')
  case atStart => exact ⟨(0), (by first | rfl | (simp; done) | (simp [*]; done)), H', ⟨Nat.le_refl _⟩, by repeat (first | exact Drawn0.refl _ | apply Drawn0.step)⟩
  case round =>
   clear H'
   try clear c1
   try clear p2
   try clear c3
   try clear c3b0
   try clear c3b1
   try clear c3b2
   obtain ⟨x13_1, rfl, HA, HK1, ⟨m1, rfl⟩⟩ := hrel
   cases gk with
   | zero => exact absurd HA.out (by simp [journal_Entry_77.l0])
   | succ k1 =>
    have H := HA.out
    clear HA
    simp only [journal_Entry_77.l0] at H
    by_cases c4 : x13_1 < (l0.length : Int)
    ·rw [if_pos c4] at H
     have c4b0 : decide (x13_1 < (l0.length : Int)) = true := decide_eq_true c4
     clear c4
     by_cases c5 : 0 ≤ x13_1
     ·rw [if_pos c5] at H
      have c5b0 : decide (0 ≤ x13_1) = true := decide_eq_true c5
      clear c5
      by_cases c6 : x13_1 < (l0.length : Int)
      ·rw [if_pos c6] at H
       have c6b0 : decide (x13_1 < (l0.length : Int)) = true := decide_eq_true c6
       clear c6
       by_cases c7 : x13_1 < (l1.length : Int)
       ·rw [if_pos c7] at H
        have c7b0 : decide (x13_1 < (l1.length : Int)) = true := decide_eq_true c7
        clear c7
        by_cases c8 : (!(((rd_T65 l0 x13_1).f0) == ((rd_T65 l1 x13_1).f0)) || (!(((rd_T65 l0 x13_1).f1) == ((rd_T65 l1 x13_1).f1)) || (!(((rd_T65 l0 x13_1).f2) == ((rd_T65 l1 x13_1).f2)) || (!(((rd_T65 l0 x13_1).f3) == ((rd_T65 l1 x13_1).f3)))))) = true
        ·rw [if_pos c8] at H
         have c8b0 : (!(((rd_T65 l0 x13_1).f0) == ((rd_T65 l1 x13_1).f0)) || (!(((rd_T65 l0 x13_1).f1) == ((rd_T65 l1 x13_1).f1)) || (!(((rd_T65 l0 x13_1).f2) == ((rd_T65 l1 x13_1).f2)) || (!(((rd_T65 l0 x13_1).f3) == ((rd_T65 l1 x13_1).f3)))))) = true := c8
         clear c8
         obtain rfl := Option.some.inj H
         have p228 : 0 ≤ (x13_1 : Int) := of_decide_eq_true (by assumption)
         have q228 : x13_1 < (l0.length : Int) := of_decide_eq_true (by assumption)
         obtain ⟨ad228, e228, hx228_0, hx228_1, hx228_2, hx228_3⟩ := at_T65 HR0.out x13_1 p228 q228
         cases e228
         replace p228 := eq_true p228
         replace q228 := eq_true q228
         have p229 : 0 ≤ (x13_1 : Int) := of_decide_eq_true (by assumption)
         have q229 : x13_1 < (l1.length : Int) := of_decide_eq_true (by assumption)
         obtain ⟨ad229, e229, hx229_0, hx229_1, hx229_2, hx229_3⟩ := at_T65 HR1.out x13_1 p229 q229
         cases e229
         replace p229 := eq_true p229
         replace q229 := eq_true q229
         go_wp2
         repeat (go_quiet (fail); try go_wp2)
         go_ret
         exact ⟨by first | rfl | (simp; done) | (simp [*]; done), by repeat (first | exact Drawn0.refl _ | apply Drawn0.step)⟩
        ·rw [if_neg c8] at H
         have c8b0 : (!(((rd_T65 l0 x13_1).f0) == ((rd_T65 l1 x13_1).f0)) || (!(((rd_T65 l0 x13_1).f1) == ((rd_T65 l1 x13_1).f1)) || (!(((rd_T65 l0 x13_1).f2) == ((rd_T65 l1 x13_1).f2)) || (!(((rd_T65 l0 x13_1).f3) == ((rd_T65 l1 x13_1).f3)))))) = false := by simpa using c8
         clear c8
         have H' := asd H
         clear H
         have p228 : 0 ≤ (x13_1 : Int) := of_decide_eq_true (by assumption)
         have q228 : x13_1 < (l0.length : Int) := of_decide_eq_true (by assumption)
         obtain ⟨ad228, e228, hx228_0, hx228_1, hx228_2, hx228_3⟩ := at_T65 HR0.out x13_1 p228 q228
         cases e228
         replace p228 := eq_true p228
         replace q228 := eq_true q228
         have p229 : 0 ≤ (x13_1 : Int) := of_decide_eq_true (by assumption)
         have q229 : x13_1 < (l1.length : Int) := of_decide_eq_true (by assumption)
         obtain ⟨ad229, e229, hx229_0, hx229_1, hx229_2, hx229_3⟩ := at_T65 HR1.out x13_1 p229 q229
         cases e229
         replace p229 := eq_true p229
         replace q229 := eq_true q229
         go_wp2
         repeat (go_quiet (fail); try go_wp2)
         go_roundg k1
         case measure => have := HK1.out; omega
         case rel => exact ⟨(wrap64 (x13_1 + 1)), (by first | rfl | (simp; done) | (simp [*]; done)), H', ⟨by have := HK1.out; omega⟩, by repeat (first | exact Drawn0.refl _ | apply Drawn0.step)⟩
       ·rw [if_neg c7] at H
        exact absurd H (by simp)
      ·rw [if_neg c6] at H
       exact absurd H (by simp)
     ·rw [if_neg c5] at H
      exact absurd H (by simp)
    ·rw [if_neg c4] at H
     have c4b0 : decide (x13_1 < (l0.length : Int)) = false := decide_eq_false c4
     clear c4
     obtain rfl := Option.some.inj H
     go_wp2
     repeat (go_quiet (fail); try go_wp2)
     go_ret
     exact ⟨by first | rfl | (simp; done) | (simp [*]; done), by repeat (first | exact Drawn0.refl _ | apply Drawn0.step)⟩
 ·rw [if_neg c3] at H
  have c3b0 : ((l0.length : Int) == (l1.length : Int)) = false := beq_eq_false_iff_ne.mpr c3
  have c3b1 : ((l0.length : Int) != (l1.length : Int)) = true := bne_iff_ne.mpr c3
  have c3b2 : (l0.length == l1.length) = false := by first | simpa using c3 | (simp at c3 ⊢; omega)
  obtain rfl := Option.some.inj H
  go_enter Try.func77, Try.ntmps77
  go_wp2
  repeat (go_quiet (fail); try go_wp2)
  go_ret
  exact ⟨by first | rfl | (simp; done) | (simp [*]; done), by repeat (first | exact Drawn0.refl _ | apply Drawn0.step)⟩
end Go.Proofs.Ytalimpniimgheaa.Fn
namespace Go.Proofs.Ytalimpniimgheaa.Fn
open Go.RowKit Go.Proofs.YtalimpniimgheaaW.PrintWords Go.Proofs.YtalimpniimgheaaW.PrintLast Go.Proofs.YtalimpniimgheaaW.PrintMore
attribute [local go_sem] max2_int min2_int max_two min_two max_three min_three max_four min_four
set_option linter.unusedVariables false
set_option linter.unusedSimpArgs false
def journal_Same.f (k : Nat) (l0 : List (S65)) (l1 : List (S65)) : Option (Bool) := (journal_Entry_77.f k l0 l1).bind fun t230 => (some t230)
set_option maxHeartbeats 8000000 in
set_option maxRecDepth 100000 in
theorem journal_Same.calls (k : Nat) (A0 : Option Addr) (c0 : Nat) (l0 : List (S65)) (A1 : Option Addr) (c1 : Nat) (l1 : List (S65)) (r : Bool) (w : World) (hr0 : Kd.C k65 w A0 l0.length l0) (hc0 : l0.length ≤ c0) (hr1 : Kd.C k65 w A1 l1.length l1) (hc1 : l1.length ≤ c1) (h : journal_Same.f k l0 l1 = some r) :
  Calls Try.prog 36 #[.slice A0 l0.length c0, .slice A1 l1.length c1] w fun e w' => e = .returned (.bool r) ∧ Drawn0 w w' := by
 have HR0 := asd hr0
 have HC0 := asd hc0
 clear hr0 hc0
 have HR1 := asd hr1
 have HC1 := asd hc1
 clear hr1 hc1
 have H : ((journal_Entry_77.f k l0 l1).bind fun t230 => (some t230)) = some r := h
 clear h
 replace H := Option.bind_eq_some_iff.mp H
 obtain ⟨t230, A30, H⟩ := H
 replace H : (some t230) = some r := H
 have A3 := asd A30
 clear A30
 obtain rfl := Option.some.inj H
 go_enter Try.func36, Try.ntmps36
 go_wp2_with (first | ((with_reducible refine gate_callee (f := 77) rfl ?_); refine goesL_ (some 7) rfl rfl Try.func77 (by kernel_rfl) rfl #[.slice A0 l0.length c0, .slice A1 l1.length c1] rfl (by (try simp only [List.map_toArray, List.map_cons, List.map_nil]); first | done | rfl | (simp only [List.length_drop, List.length_take]; rfl)) ?_; (with_reducible refine (journal_Entry_77.calls k _ _ l0 _ _ l1 t230 _ ?side1 ?side2 ?side3 ?side4 A3.out).mono ?_); (case side1 => repeat (first | exact HR0.out | (with_reducible refine Kd.C_alloc ?_ _) | (with_reducible refine Kd.C_drewN ?_ _) | (with_reducible refine Kd.C_drew ?_))); (case side2 => exact HC0.out); (case side3 => repeat (first | exact HR1.out | (with_reducible refine Kd.C_alloc ?_ _) | (with_reducible refine Kd.C_drewN ?_ _) | (with_reducible refine Kd.C_drew ?_))); (case side4 => exact HC1.out); rintro e w' ⟨rfl, ⟨nd, rfl⟩⟩; refine ⟨_, rfl, ?_⟩))
 go_ret
 exact ⟨by first | rfl | (simp; done) | (simp [*]; done), by repeat (first | exact Drawn0.refl _ | apply Drawn0.step)⟩
end Go.Proofs.Ytalimpniimgheaa.Fn
namespace Go.Proofs.Ytalimpniimgheaa.Fn
open Go.RowKit Go.Proofs.YtalimpniimgheaaW.PrintWords Go.Proofs.YtalimpniimgheaaW.PrintLast Go.Proofs.YtalimpniimgheaaW.PrintMore
attribute [local go_sem] max2_int min2_int max_two min_two max_three min_three max_four min_four
set_option linter.unusedVariables false
set_option linter.unusedSimpArgs false
def parcloseref23_Word.f (a0 : Int) : Option (ByteArray) := (some (([(⟨#[97, 99, 99, 101, 112, 116]⟩ : ByteArray), (⟨#[114, 101, 102, 117, 115, 101]⟩ : ByteArray), (⟨#[97, 115, 107]⟩ : ByteArray), (⟨#[114, 97, 110]⟩ : ByteArray), (⟨#[101, 110, 100, 101, 100]⟩ : ByteArray), (⟨#[111, 118, 101, 114]⟩ : ByteArray), (⟨#[109, 105, 115, 115, 101, 100]⟩ : ByteArray), (⟨#[114, 111, 115, 101]⟩ : ByteArray), (⟨#[100, 114, 111, 112, 112, 101, 100]⟩ : ByteArray), (⟨#[102, 101, 108, 108]⟩ : ByteArray), (⟨#[115, 101, 114, 118, 101, 100]⟩ : ByteArray), (⟨#[111, 112]⟩ : ByteArray), (⟨#[102, 97, 117, 108, 116]⟩ : ByteArray), (⟨#[111, 114, 100, 101, 114]⟩ : ByteArray), (⟨#[109, 97, 114, 107]⟩ : ByteArray)] : List ByteArray) : List ByteArray)).bind fun y224 => (if a0 < 0 then (some (⟨#[]⟩ : ByteArray)) else (if a0 ≥ (y224.length : Int) then (some (⟨#[]⟩ : ByteArray)) else (if 0 ≤ a0 then (if a0 < (y224.length : Int) then (some (rdOf ByteArray.empty y224 a0)) else (none)) else (none))))
set_option maxHeartbeats 8000000 in
set_option maxRecDepth 100000 in
theorem parcloseref23_Word.calls (a0 : Int) (r : ByteArray) (w : World) (h : parcloseref23_Word.f a0 = some r) :
  Calls Try.prog 35 #[.int .i64 a0] w fun e w' => e = .returned (.string r) ∧ Below w.heap.size w w' := by
 have HB := asd (Below.refl w.heap.size w)
 have H : ((some (([(⟨#[97, 99, 99, 101, 112, 116]⟩ : ByteArray), (⟨#[114, 101, 102, 117, 115, 101]⟩ : ByteArray), (⟨#[97, 115, 107]⟩ : ByteArray), (⟨#[114, 97, 110]⟩ : ByteArray), (⟨#[101, 110, 100, 101, 100]⟩ : ByteArray), (⟨#[111, 118, 101, 114]⟩ : ByteArray), (⟨#[109, 105, 115, 115, 101, 100]⟩ : ByteArray), (⟨#[114, 111, 115, 101]⟩ : ByteArray), (⟨#[100, 114, 111, 112, 112, 101, 100]⟩ : ByteArray), (⟨#[102, 101, 108, 108]⟩ : ByteArray), (⟨#[115, 101, 114, 118, 101, 100]⟩ : ByteArray), (⟨#[111, 112]⟩ : ByteArray), (⟨#[102, 97, 117, 108, 116]⟩ : ByteArray), (⟨#[111, 114, 100, 101, 114]⟩ : ByteArray), (⟨#[109, 97, 114, 107]⟩ : ByteArray)] : List ByteArray) : List ByteArray)).bind fun y224 => (if a0 < 0 then (some (⟨#[]⟩ : ByteArray)) else (if a0 ≥ (y224.length : Int) then (some (⟨#[]⟩ : ByteArray)) else (if 0 ≤ a0 then (if a0 < (y224.length : Int) then (some (rdOf ByteArray.empty y224 a0)) else (none)) else (none))))) = some r := h
 clear h
 obtain ⟨y224, hy224⟩ : ∃ y_ : List ByteArray, y_ = (([(⟨#[97, 99, 99, 101, 112, 116]⟩ : ByteArray), (⟨#[114, 101, 102, 117, 115, 101]⟩ : ByteArray), (⟨#[97, 115, 107]⟩ : ByteArray), (⟨#[114, 97, 110]⟩ : ByteArray), (⟨#[101, 110, 100, 101, 100]⟩ : ByteArray), (⟨#[111, 118, 101, 114]⟩ : ByteArray), (⟨#[109, 105, 115, 115, 101, 100]⟩ : ByteArray), (⟨#[114, 111, 115, 101]⟩ : ByteArray), (⟨#[100, 114, 111, 112, 112, 101, 100]⟩ : ByteArray), (⟨#[102, 101, 108, 108]⟩ : ByteArray), (⟨#[115, 101, 114, 118, 101, 100]⟩ : ByteArray), (⟨#[111, 112]⟩ : ByteArray), (⟨#[102, 97, 117, 108, 116]⟩ : ByteArray), (⟨#[111, 114, 100, 101, 114]⟩ : ByteArray), (⟨#[109, 97, 114, 107]⟩ : ByteArray)] : List ByteArray)) := ⟨_, rfl⟩
 replace H : (if a0 < 0 then (some (⟨#[]⟩ : ByteArray)) else (if a0 ≥ (y224.length : Int) then (some (⟨#[]⟩ : ByteArray)) else (if 0 ≤ a0 then (if a0 < (y224.length : Int) then (some (rdOf ByteArray.empty y224 a0)) else (none)) else (none)))) = some r := by first | (rw [hy224]; with_reducible exact H) | (have H2_ := (Option.bind_some _ _).symm.trans H; rw [hy224]; with_reducible exact H2_) | (have H2_ := (Option.bind_some _ _).symm.trans H; with_reducible exact H2_) | with_reducible exact H | (rw [hy224]; exact H) | exact H
 have Ny224 := asd hy224
 clear hy224
 by_cases c2 : a0 < 0
 ·rw [if_pos c2] at H
  have c2b0 : decide (a0 < 0) = true := decide_eq_true c2
  clear c2
  obtain rfl := Option.some.inj H
  go_enter Try.func35, Try.ntmps35
  go_wp2_with (first | ((with_reducible refine gate_dst (N := 4) rfl ?_); (try (refine gate_guard (by rfl) ?_; dsimp only)); refine Kd.R_lit Kd.string _ 9 ?hg (N := 4) ?hd (xs := ([(⟨#[97, 99, 99, 101, 112, 116]⟩ : ByteArray), (⟨#[114, 101, 102, 117, 115, 101]⟩ : ByteArray), (⟨#[97, 115, 107]⟩ : ByteArray), (⟨#[114, 97, 110]⟩ : ByteArray), (⟨#[101, 110, 100, 101, 100]⟩ : ByteArray), (⟨#[111, 118, 101, 114]⟩ : ByteArray), (⟨#[109, 105, 115, 115, 101, 100]⟩ : ByteArray), (⟨#[114, 111, 115, 101]⟩ : ByteArray), (⟨#[100, 114, 111, 112, 112, 101, 100]⟩ : ByteArray), (⟨#[102, 101, 108, 108]⟩ : ByteArray), (⟨#[115, 101, 114, 118, 101, 100]⟩ : ByteArray), (⟨#[111, 112]⟩ : ByteArray), (⟨#[102, 97, 117, 108, 116]⟩ : ByteArray), (⟨#[111, 114, 100, 101, 114]⟩ : ByteArray), (⟨#[109, 97, 114, 107]⟩ : ByteArray)] : List ByteArray)) (inner := [.string (⟨#[97, 99, 99, 101, 112, 116]⟩ : ByteArray), .string (⟨#[114, 101, 102, 117, 115, 101]⟩ : ByteArray), .string (⟨#[97, 115, 107]⟩ : ByteArray), .string (⟨#[114, 97, 110]⟩ : ByteArray), .string (⟨#[101, 110, 100, 101, 100]⟩ : ByteArray), .string (⟨#[111, 118, 101, 114]⟩ : ByteArray), .string (⟨#[109, 105, 115, 115, 101, 100]⟩ : ByteArray), .string (⟨#[114, 111, 115, 101]⟩ : ByteArray), .string (⟨#[100, 114, 111, 112, 112, 101, 100]⟩ : ByteArray), .string (⟨#[102, 101, 108, 108]⟩ : ByteArray), .string (⟨#[115, 101, 114, 118, 101, 100]⟩ : ByteArray), .string (⟨#[111, 112]⟩ : ByteArray), .string (⟨#[102, 97, 117, 108, 116]⟩ : ByteArray), .string (⟨#[111, 114, 100, 101, 114]⟩ : ByteArray), .string (⟨#[109, 97, 114, 107]⟩ : ByteArray)]) (ok := fun _ => True) (okp := fun _ => True) ?hr ?hp (fun _ hk => hk) trivial (Below.refl _ _) (Nat.le_refl _) (by simp) ?_; (case hd => rfl); (case hg => rfl); (case hr => first | (go_simp; done) | (go_simp; rfl)); (case hp => exact (Reps.one (show Kd.M Kd.string _ _ _ (⟨#[97, 99, 99, 101, 112, 116]⟩ : ByteArray) [.string (⟨#[97, 99, 99, 101, 112, 116]⟩ : ByteArray)] from rfl) (Reps.one (show Kd.M Kd.string _ _ _ (⟨#[114, 101, 102, 117, 115, 101]⟩ : ByteArray) [.string (⟨#[114, 101, 102, 117, 115, 101]⟩ : ByteArray)] from rfl) (Reps.one (show Kd.M Kd.string _ _ _ (⟨#[97, 115, 107]⟩ : ByteArray) [.string (⟨#[97, 115, 107]⟩ : ByteArray)] from rfl) (Reps.one (show Kd.M Kd.string _ _ _ (⟨#[114, 97, 110]⟩ : ByteArray) [.string (⟨#[114, 97, 110]⟩ : ByteArray)] from rfl) (Reps.one (show Kd.M Kd.string _ _ _ (⟨#[101, 110, 100, 101, 100]⟩ : ByteArray) [.string (⟨#[101, 110, 100, 101, 100]⟩ : ByteArray)] from rfl) (Reps.one (show Kd.M Kd.string _ _ _ (⟨#[111, 118, 101, 114]⟩ : ByteArray) [.string (⟨#[111, 118, 101, 114]⟩ : ByteArray)] from rfl) (Reps.one (show Kd.M Kd.string _ _ _ (⟨#[109, 105, 115, 115, 101, 100]⟩ : ByteArray) [.string (⟨#[109, 105, 115, 115, 101, 100]⟩ : ByteArray)] from rfl) (Reps.one (show Kd.M Kd.string _ _ _ (⟨#[114, 111, 115, 101]⟩ : ByteArray) [.string (⟨#[114, 111, 115, 101]⟩ : ByteArray)] from rfl) (Reps.one (show Kd.M Kd.string _ _ _ (⟨#[100, 114, 111, 112, 112, 101, 100]⟩ : ByteArray) [.string (⟨#[100, 114, 111, 112, 112, 101, 100]⟩ : ByteArray)] from rfl) (Reps.one (show Kd.M Kd.string _ _ _ (⟨#[102, 101, 108, 108]⟩ : ByteArray) [.string (⟨#[102, 101, 108, 108]⟩ : ByteArray)] from rfl) (Reps.one (show Kd.M Kd.string _ _ _ (⟨#[115, 101, 114, 118, 101, 100]⟩ : ByteArray) [.string (⟨#[115, 101, 114, 118, 101, 100]⟩ : ByteArray)] from rfl) (Reps.one (show Kd.M Kd.string _ _ _ (⟨#[111, 112]⟩ : ByteArray) [.string (⟨#[111, 112]⟩ : ByteArray)] from rfl) (Reps.one (show Kd.M Kd.string _ _ _ (⟨#[102, 97, 117, 108, 116]⟩ : ByteArray) [.string (⟨#[102, 97, 117, 108, 116]⟩ : ByteArray)] from rfl) (Reps.one (show Kd.M Kd.string _ _ _ (⟨#[111, 114, 100, 101, 114]⟩ : ByteArray) [.string (⟨#[111, 114, 100, 101, 114]⟩ : ByteArray)] from rfl) (Reps.one (show Kd.M Kd.string _ _ _ (⟨#[109, 97, 114, 107]⟩ : ByteArray) [.string (⟨#[109, 97, 114, 107]⟩ : ByteArray)] from rfl) (Reps.none _ _))))))))))))))))); intro v225 w3 ho4 hb hg_ hnew_; clear hg_ hnew_; (first | rw [← Ny224.out] at ho4 | (simp only [Int.reduceToNat] at ho4; rw [← Ny224.out] at ho4)); have n0_ := asd (Kd.R_lower ho4 (below_size (by repeat (first | (with_reducible first | exact HB.out | apply wa | apply wn | apply wd) | exact HB.out)))); have n1_ := asd (below_step (by repeat (first | (with_reducible first | exact HB.out | apply wa | apply wn | apply wd) | exact HB.out)) hb); clear HB; have HO226 := n0_; have HB := n1_; clear n0_ n1_; clear hb ho4))
  go_ret
  exact ⟨by first | rfl | (simp [*] <;> rfl), by repeat (first | (with_reducible first | exact HB.out | apply wa | apply wn | apply wd) | exact HB.out)⟩
 ·rw [if_neg c2] at H
  have c2b0 : decide (a0 < 0) = false := decide_eq_false c2
  clear c2
  by_cases c5 : a0 ≥ (y224.length : Int)
  ·rw [if_pos c5] at H
   have c5b0 : decide ((y224.length : Int) ≤ a0) = true := decide_eq_true c5
   clear c5
   obtain rfl := Option.some.inj H
   go_enter Try.func35, Try.ntmps35
   go_wp2_with (first | ((with_reducible refine gate_dst (N := 4) rfl ?_); (try (refine gate_guard (by rfl) ?_; dsimp only)); refine Kd.R_lit Kd.string _ 9 ?hg (N := 4) ?hd (xs := ([(⟨#[97, 99, 99, 101, 112, 116]⟩ : ByteArray), (⟨#[114, 101, 102, 117, 115, 101]⟩ : ByteArray), (⟨#[97, 115, 107]⟩ : ByteArray), (⟨#[114, 97, 110]⟩ : ByteArray), (⟨#[101, 110, 100, 101, 100]⟩ : ByteArray), (⟨#[111, 118, 101, 114]⟩ : ByteArray), (⟨#[109, 105, 115, 115, 101, 100]⟩ : ByteArray), (⟨#[114, 111, 115, 101]⟩ : ByteArray), (⟨#[100, 114, 111, 112, 112, 101, 100]⟩ : ByteArray), (⟨#[102, 101, 108, 108]⟩ : ByteArray), (⟨#[115, 101, 114, 118, 101, 100]⟩ : ByteArray), (⟨#[111, 112]⟩ : ByteArray), (⟨#[102, 97, 117, 108, 116]⟩ : ByteArray), (⟨#[111, 114, 100, 101, 114]⟩ : ByteArray), (⟨#[109, 97, 114, 107]⟩ : ByteArray)] : List ByteArray)) (inner := [.string (⟨#[97, 99, 99, 101, 112, 116]⟩ : ByteArray), .string (⟨#[114, 101, 102, 117, 115, 101]⟩ : ByteArray), .string (⟨#[97, 115, 107]⟩ : ByteArray), .string (⟨#[114, 97, 110]⟩ : ByteArray), .string (⟨#[101, 110, 100, 101, 100]⟩ : ByteArray), .string (⟨#[111, 118, 101, 114]⟩ : ByteArray), .string (⟨#[109, 105, 115, 115, 101, 100]⟩ : ByteArray), .string (⟨#[114, 111, 115, 101]⟩ : ByteArray), .string (⟨#[100, 114, 111, 112, 112, 101, 100]⟩ : ByteArray), .string (⟨#[102, 101, 108, 108]⟩ : ByteArray), .string (⟨#[115, 101, 114, 118, 101, 100]⟩ : ByteArray), .string (⟨#[111, 112]⟩ : ByteArray), .string (⟨#[102, 97, 117, 108, 116]⟩ : ByteArray), .string (⟨#[111, 114, 100, 101, 114]⟩ : ByteArray), .string (⟨#[109, 97, 114, 107]⟩ : ByteArray)]) (ok := fun _ => True) (okp := fun _ => True) ?hr ?hp (fun _ hk => hk) trivial (Below.refl _ _) (Nat.le_refl _) (by simp) ?_; (case hd => rfl); (case hg => rfl); (case hr => first | (go_simp; done) | (go_simp; rfl)); (case hp => exact (Reps.one (show Kd.M Kd.string _ _ _ (⟨#[97, 99, 99, 101, 112, 116]⟩ : ByteArray) [.string (⟨#[97, 99, 99, 101, 112, 116]⟩ : ByteArray)] from rfl) (Reps.one (show Kd.M Kd.string _ _ _ (⟨#[114, 101, 102, 117, 115, 101]⟩ : ByteArray) [.string (⟨#[114, 101, 102, 117, 115, 101]⟩ : ByteArray)] from rfl) (Reps.one (show Kd.M Kd.string _ _ _ (⟨#[97, 115, 107]⟩ : ByteArray) [.string (⟨#[97, 115, 107]⟩ : ByteArray)] from rfl) (Reps.one (show Kd.M Kd.string _ _ _ (⟨#[114, 97, 110]⟩ : ByteArray) [.string (⟨#[114, 97, 110]⟩ : ByteArray)] from rfl) (Reps.one (show Kd.M Kd.string _ _ _ (⟨#[101, 110, 100, 101, 100]⟩ : ByteArray) [.string (⟨#[101, 110, 100, 101, 100]⟩ : ByteArray)] from rfl) (Reps.one (show Kd.M Kd.string _ _ _ (⟨#[111, 118, 101, 114]⟩ : ByteArray) [.string (⟨#[111, 118, 101, 114]⟩ : ByteArray)] from rfl) (Reps.one (show Kd.M Kd.string _ _ _ (⟨#[109, 105, 115, 115, 101, 100]⟩ : ByteArray) [.string (⟨#[109, 105, 115, 115, 101, 100]⟩ : ByteArray)] from rfl) (Reps.one (show Kd.M Kd.string _ _ _ (⟨#[114, 111, 115, 101]⟩ : ByteArray) [.string (⟨#[114, 111, 115, 101]⟩ : ByteArray)] from rfl) (Reps.one (show Kd.M Kd.string _ _ _ (⟨#[100, 114, 111, 112, 112, 101, 100]⟩ : ByteArray) [.string (⟨#[100, 114, 111, 112, 112, 101, 100]⟩ : ByteArray)] from rfl) (Reps.one (show Kd.M Kd.string _ _ _ (⟨#[102, 101, 108, 108]⟩ : ByteArray) [.string (⟨#[102, 101, 108, 108]⟩ : ByteArray)] from rfl) (Reps.one (show Kd.M Kd.string _ _ _ (⟨#[115, 101, 114, 118, 101, 100]⟩ : ByteArray) [.string (⟨#[115, 101, 114, 118, 101, 100]⟩ : ByteArray)] from rfl) (Reps.one (show Kd.M Kd.string _ _ _ (⟨#[111, 112]⟩ : ByteArray) [.string (⟨#[111, 112]⟩ : ByteArray)] from rfl) (Reps.one (show Kd.M Kd.string _ _ _ (⟨#[102, 97, 117, 108, 116]⟩ : ByteArray) [.string (⟨#[102, 97, 117, 108, 116]⟩ : ByteArray)] from rfl) (Reps.one (show Kd.M Kd.string _ _ _ (⟨#[111, 114, 100, 101, 114]⟩ : ByteArray) [.string (⟨#[111, 114, 100, 101, 114]⟩ : ByteArray)] from rfl) (Reps.one (show Kd.M Kd.string _ _ _ (⟨#[109, 97, 114, 107]⟩ : ByteArray) [.string (⟨#[109, 97, 114, 107]⟩ : ByteArray)] from rfl) (Reps.none _ _))))))))))))))))); intro v225 w6 ho7 hb hg_ hnew_; clear hg_ hnew_; (first | rw [← Ny224.out] at ho7 | (simp only [Int.reduceToNat] at ho7; rw [← Ny224.out] at ho7)); have n0_ := asd (Kd.R_lower ho7 (below_size (by repeat (first | (with_reducible first | exact HB.out | apply wa | apply wn | apply wd) | exact HB.out)))); have n1_ := asd (below_step (by repeat (first | (with_reducible first | exact HB.out | apply wa | apply wn | apply wd) | exact HB.out)) hb); clear HB; have HO226 := n0_; have HB := n1_; clear n0_ n1_; clear hb ho7; obtain ⟨Ao8, co8, eo8⟩ := Kd.R_slice HO226.out; subst eo8))
   go_ret
   exact ⟨by first | rfl | (simp [*] <;> rfl), by repeat (first | (with_reducible first | exact HB.out | apply wa | apply wn | apply wd) | exact HB.out)⟩
  ·rw [if_neg c5] at H
   have c5b0 : decide ((y224.length : Int) ≤ a0) = false := decide_eq_false c5
   clear c5
   by_cases c9 : 0 ≤ a0
   ·rw [if_pos c9] at H
    have c9b0 : decide (0 ≤ a0) = true := decide_eq_true c9
    clear c9
    by_cases c10 : a0 < (y224.length : Int)
    ·rw [if_pos c10] at H
     have c10b0 : decide (a0 < (y224.length : Int)) = true := decide_eq_true c10
     clear c10
     obtain rfl := Option.some.inj H
     go_enter Try.func35, Try.ntmps35
     go_wp2_with (first | ((with_reducible refine gate_dst (N := 4) rfl ?_); (try (refine gate_guard (by rfl) ?_; dsimp only)); refine Kd.R_lit Kd.string _ 9 ?hg (N := 4) ?hd (xs := ([(⟨#[97, 99, 99, 101, 112, 116]⟩ : ByteArray), (⟨#[114, 101, 102, 117, 115, 101]⟩ : ByteArray), (⟨#[97, 115, 107]⟩ : ByteArray), (⟨#[114, 97, 110]⟩ : ByteArray), (⟨#[101, 110, 100, 101, 100]⟩ : ByteArray), (⟨#[111, 118, 101, 114]⟩ : ByteArray), (⟨#[109, 105, 115, 115, 101, 100]⟩ : ByteArray), (⟨#[114, 111, 115, 101]⟩ : ByteArray), (⟨#[100, 114, 111, 112, 112, 101, 100]⟩ : ByteArray), (⟨#[102, 101, 108, 108]⟩ : ByteArray), (⟨#[115, 101, 114, 118, 101, 100]⟩ : ByteArray), (⟨#[111, 112]⟩ : ByteArray), (⟨#[102, 97, 117, 108, 116]⟩ : ByteArray), (⟨#[111, 114, 100, 101, 114]⟩ : ByteArray), (⟨#[109, 97, 114, 107]⟩ : ByteArray)] : List ByteArray)) (inner := [.string (⟨#[97, 99, 99, 101, 112, 116]⟩ : ByteArray), .string (⟨#[114, 101, 102, 117, 115, 101]⟩ : ByteArray), .string (⟨#[97, 115, 107]⟩ : ByteArray), .string (⟨#[114, 97, 110]⟩ : ByteArray), .string (⟨#[101, 110, 100, 101, 100]⟩ : ByteArray), .string (⟨#[111, 118, 101, 114]⟩ : ByteArray), .string (⟨#[109, 105, 115, 115, 101, 100]⟩ : ByteArray), .string (⟨#[114, 111, 115, 101]⟩ : ByteArray), .string (⟨#[100, 114, 111, 112, 112, 101, 100]⟩ : ByteArray), .string (⟨#[102, 101, 108, 108]⟩ : ByteArray), .string (⟨#[115, 101, 114, 118, 101, 100]⟩ : ByteArray), .string (⟨#[111, 112]⟩ : ByteArray), .string (⟨#[102, 97, 117, 108, 116]⟩ : ByteArray), .string (⟨#[111, 114, 100, 101, 114]⟩ : ByteArray), .string (⟨#[109, 97, 114, 107]⟩ : ByteArray)]) (ok := fun _ => True) (okp := fun _ => True) ?hr ?hp (fun _ hk => hk) trivial (Below.refl _ _) (Nat.le_refl _) (by simp) ?_; (case hd => rfl); (case hg => rfl); (case hr => first | (go_simp; done) | (go_simp; rfl)); (case hp => exact (Reps.one (show Kd.M Kd.string _ _ _ (⟨#[97, 99, 99, 101, 112, 116]⟩ : ByteArray) [.string (⟨#[97, 99, 99, 101, 112, 116]⟩ : ByteArray)] from rfl) (Reps.one (show Kd.M Kd.string _ _ _ (⟨#[114, 101, 102, 117, 115, 101]⟩ : ByteArray) [.string (⟨#[114, 101, 102, 117, 115, 101]⟩ : ByteArray)] from rfl) (Reps.one (show Kd.M Kd.string _ _ _ (⟨#[97, 115, 107]⟩ : ByteArray) [.string (⟨#[97, 115, 107]⟩ : ByteArray)] from rfl) (Reps.one (show Kd.M Kd.string _ _ _ (⟨#[114, 97, 110]⟩ : ByteArray) [.string (⟨#[114, 97, 110]⟩ : ByteArray)] from rfl) (Reps.one (show Kd.M Kd.string _ _ _ (⟨#[101, 110, 100, 101, 100]⟩ : ByteArray) [.string (⟨#[101, 110, 100, 101, 100]⟩ : ByteArray)] from rfl) (Reps.one (show Kd.M Kd.string _ _ _ (⟨#[111, 118, 101, 114]⟩ : ByteArray) [.string (⟨#[111, 118, 101, 114]⟩ : ByteArray)] from rfl) (Reps.one (show Kd.M Kd.string _ _ _ (⟨#[109, 105, 115, 115, 101, 100]⟩ : ByteArray) [.string (⟨#[109, 105, 115, 115, 101, 100]⟩ : ByteArray)] from rfl) (Reps.one (show Kd.M Kd.string _ _ _ (⟨#[114, 111, 115, 101]⟩ : ByteArray) [.string (⟨#[114, 111, 115, 101]⟩ : ByteArray)] from rfl) (Reps.one (show Kd.M Kd.string _ _ _ (⟨#[100, 114, 111, 112, 112, 101, 100]⟩ : ByteArray) [.string (⟨#[100, 114, 111, 112, 112, 101, 100]⟩ : ByteArray)] from rfl) (Reps.one (show Kd.M Kd.string _ _ _ (⟨#[102, 101, 108, 108]⟩ : ByteArray) [.string (⟨#[102, 101, 108, 108]⟩ : ByteArray)] from rfl) (Reps.one (show Kd.M Kd.string _ _ _ (⟨#[115, 101, 114, 118, 101, 100]⟩ : ByteArray) [.string (⟨#[115, 101, 114, 118, 101, 100]⟩ : ByteArray)] from rfl) (Reps.one (show Kd.M Kd.string _ _ _ (⟨#[111, 112]⟩ : ByteArray) [.string (⟨#[111, 112]⟩ : ByteArray)] from rfl) (Reps.one (show Kd.M Kd.string _ _ _ (⟨#[102, 97, 117, 108, 116]⟩ : ByteArray) [.string (⟨#[102, 97, 117, 108, 116]⟩ : ByteArray)] from rfl) (Reps.one (show Kd.M Kd.string _ _ _ (⟨#[111, 114, 100, 101, 114]⟩ : ByteArray) [.string (⟨#[111, 114, 100, 101, 114]⟩ : ByteArray)] from rfl) (Reps.one (show Kd.M Kd.string _ _ _ (⟨#[109, 97, 114, 107]⟩ : ByteArray) [.string (⟨#[109, 97, 114, 107]⟩ : ByteArray)] from rfl) (Reps.none _ _))))))))))))))))); intro v225 w11 ho12 hb hg_ hnew_; clear hg_ hnew_; (first | rw [← Ny224.out] at ho12 | (simp only [Int.reduceToNat] at ho12; rw [← Ny224.out] at ho12)); have n0_ := asd (Kd.R_lower ho12 (below_size (by repeat (first | (with_reducible first | exact HB.out | apply wa | apply wn | apply wd) | exact HB.out)))); have n1_ := asd (below_step (by repeat (first | (with_reducible first | exact HB.out | apply wa | apply wn | apply wd) | exact HB.out)) hb); clear HB; have HO226 := n0_; have HB := n1_; clear n0_ n1_; clear hb ho12; obtain ⟨Ao13, co13, eo13⟩ := Kd.R_slice HO226.out; subst eo13; have p227 : 0 ≤ (a0 : Int) := of_decide_eq_true (by assumption); have q227 : a0 < (y224.length : Int) := of_decide_eq_true (by assumption); obtain ⟨ad227, e227, hx227_0⟩ := Kd.at_string (Kd.R_reads' HO226.out).2.2 a0 p227 q227; cases e227; replace p227 := eq_true p227; replace q227 := eq_true q227))
     go_ret
     exact ⟨by first | rfl | (simp [*] <;> rfl), by repeat (first | (with_reducible first | exact HB.out | apply wa | apply wn | apply wd) | exact HB.out)⟩
    ·rw [if_neg c10] at H
     exact absurd H (by simp)
   ·rw [if_neg c9] at H
    exact absurd H (by simp)
end Go.Proofs.Ytalimpniimgheaa.Fn
namespace Go.Proofs.Ytalimpniimgheaa.Fn
open Go.RowKit Go.Proofs.YtalimpniimgheaaW.PrintWords Go.Proofs.YtalimpniimgheaaW.PrintLast Go.Proofs.YtalimpniimgheaaW.PrintMore
set_option linter.unusedVariables false
set_option linter.unusedSimpArgs false
attribute [local go_sem] max2_mx min2_mn max_two min_two
instance : DecidableEq S64 := fun a b => decidable_of_iff (a.f0 = b.f0 ∧ a.f1 = b.f1 ∧ a.f2 = b.f2 ∧ a.f3 = b.f3) (by cases a; cases b; simp)
instance : DecidableEq S65 := fun a b => decidable_of_iff (a.f0 = b.f0 ∧ a.f1 = b.f1 ∧ a.f2 = b.f2 ∧ a.f3 = b.f3) (by cases a; cases b; simp)
def toE (x : S64) : S65 := ⟨x.f0, x.f1, x.f2, x.f3⟩
def toR (x : S65) : S64 := ⟨x.f0, x.f1, x.f2, x.f3⟩
theorem map_RE (l : List S64) : (l.map toE).map toR = l := by rw [List.map_map]; exact List.map_id'' (fun x => rfl) l
theorem owns_ev (l : List S64) (hl : l.length ≤ 65536) : ∀ (n x : Nat) (acc : List S65), x + n = l.length → acc.length ≤ x → Ev (fun k => parcloselaw23_owns.l0 k l acc (x : Int)) (acc ++ (l.drop x).map toE) := by
 intro n
 induction n with
 | zero =>
  intro x acc hx ha
  refine Ev.step (f := fun _ => some acc) (fun k => by simp only [parcloselaw23_owns.l0]; rw [if_neg (by omega)]) ?_
  rw [List.drop_of_length_le (by omega)]
  simp only [List.map_nil, List.append_nil]
  exact Ev.now _
 | succ n ih =>
  intro x acc hx ha
  refine Ev.step (f := fun k => parcloselaw23_owns.l0 k l (acc ++ [toE (l.getD x z64)]) ((x + 1 : Nat) : Int)) (fun k => by
   simp only [parcloselaw23_owns.l0]
   rw [if_pos (by omega), if_pos (by omega), if_pos (by omega), show wrap64 ((x : Int) + 1) = ((x + 1 : Nat) : Int) by unfold wrap64; omega]
   rfl) ?_
  have h := ih (x + 1) (acc ++ [toE (l.getD x z64)]) (by omega) (by simp; omega)
  rw [List.append_assoc] at h
  have e : l.drop x = l.getD x z64 :: l.drop (x + 1) := by rw [getD_lt l z64 (by omega)]; exact List.drop_eq_getElem_cons (by omega)
  rw [e, List.map_cons]
  exact h
theorem owns_f (l : List S64) (hl : l.length ≤ 65536) : ∃ k, parcloselaw23_owns.f k l = some (l.map toE) := by
 have h := owns_ev l hl l.length 0 [] (by omega) (by simp)
 simp only [List.nil_append, List.drop_zero] at h
 exact h.rounds
theorem same_ev (a b : List S64) (hl : a.length = b.length) (ha : a.length ≤ 100000) : ∀ (n x : Nat), x + n = a.length → Ev (fun k => parcloseref23_Same.l0 k a b (x : Int)) (decide (a.drop x = b.drop x)) := by
 intro n
 induction n with
 | zero =>
  intro x hx
  rw [List.drop_of_length_le (by omega), List.drop_of_length_le (by omega)]
  refine Ev.step (f := fun _ => some true) (fun k => by simp only [parcloseref23_Same.l0]; rw [if_neg (by omega)]) ?_
  exact Ev.now _
 | succ n ih =>
  intro x hx
  have ea : a.drop x = a.getD x z64 :: a.drop (x + 1) := by rw [getD_lt a z64 (by omega)]; exact List.drop_eq_getElem_cons (by omega)
  have eb : b.drop x = b.getD x z64 :: b.drop (x + 1) := by rw [getD_lt b z64 (by omega)]; exact List.drop_eq_getElem_cons (by omega)
  have ra : rd_T64 a (x : Int) = a.getD x z64 := by unfold rd_T64; rw [Int.toNat_natCast]
  have rb : rd_T64 b (x : Int) = b.getD x z64 := by unfold rd_T64; rw [Int.toNat_natCast]
  by_cases he : a.getD x z64 = b.getD x z64
  ·have hd : decide (a.drop x = b.drop x) = decide (a.drop (x + 1) = b.drop (x + 1)) := by rw [ea, eb, he]; simp
   rw [hd]
   refine Ev.step (f := fun k => parcloseref23_Same.l0 k a b ((x + 1 : Nat) : Int)) (fun k => by
    simp only [parcloseref23_Same.l0]
    rw [if_pos (by omega), if_pos (by omega), if_pos (by omega), ra, rb, he, if_neg (by simp), show wrap64 ((x : Int) + 1) = ((x + 1 : Nat) : Int) by unfold wrap64; omega]) (ih (x + 1) (by omega))
  ·have hd : decide (a.drop x = b.drop x) = false := decide_eq_false (by rw [ea, eb]; intro h; exact he (List.cons.inj h).1)
   rw [hd]
   refine Ev.step (f := fun _ => some false) (fun k => by
    simp only [parcloseref23_Same.l0]
    rw [if_pos (by omega), if_pos (by omega), if_pos (by omega), ra, rb, if_pos]
    have h4 : ¬ ((a.getD x z64).f0 = (b.getD x z64).f0 ∧ (a.getD x z64).f1 = (b.getD x z64).f1 ∧ (a.getD x z64).f2 = (b.getD x z64).f2 ∧ (a.getD x z64).f3 = (b.getD x z64).f3) := by
     rintro ⟨h0, h1, h2, h3⟩
     apply he
     cases h5 : a.getD x z64
     cases h6 : b.getD x z64
     simp_all
    simp only [Bool.or_eq_true, Bool.not_eq_true', beq_eq_false_iff_ne, ne_eq]
    omega) (Ev.now _)
theorem same_f (a b : List S64) (ha : a.length ≤ 100000) : ∃ k, parcloseref23_Same.f k a b = some (decide (a = b)) := by
 unfold parcloseref23_Same.f
 by_cases h : a.length = b.length
 ·have h2 := same_ev a b h ha a.length 0 (by omega)
  simp only [List.drop_zero] at h2
  obtain ⟨k, hk⟩ := h2.rounds
  exact ⟨k, by rw [if_pos (by omega)]; exact hk⟩
 ·exact ⟨0, by rw [if_neg (by omega), decide_eq_false (fun e => h (by rw [e]))]⟩
def words : List ByteArray := [(⟨#[97, 99, 99, 101, 112, 116]⟩ : ByteArray), (⟨#[114, 101, 102, 117, 115, 101]⟩ : ByteArray), (⟨#[97, 115, 107]⟩ : ByteArray), (⟨#[114, 97, 110]⟩ : ByteArray), (⟨#[101, 110, 100, 101, 100]⟩ : ByteArray), (⟨#[111, 118, 101, 114]⟩ : ByteArray), (⟨#[109, 105, 115, 115, 101, 100]⟩ : ByteArray), (⟨#[114, 111, 115, 101]⟩ : ByteArray), (⟨#[100, 114, 111, 112, 112, 101, 100]⟩ : ByteArray), (⟨#[102, 101, 108, 108]⟩ : ByteArray), (⟨#[115, 101, 114, 118, 101, 100]⟩ : ByteArray), (⟨#[111, 112]⟩ : ByteArray), (⟨#[102, 97, 117, 108, 116]⟩ : ByteArray), (⟨#[111, 114, 100, 101, 114]⟩ : ByteArray), (⟨#[109, 97, 114, 107]⟩ : ByteArray)]
def wordOf (k : Int) : ByteArray := if 0 ≤ k ∧ k < 15 then words.getD k.toNat ⟨#[]⟩ else ⟨#[]⟩
set_option maxHeartbeats 4000000 in
set_option maxRecDepth 100000 in
theorem word_calls (k : Int) (w : World) : Calls Try.prog 34 #[.int .i64 k] w fun e w' => e = .returned (.string (wordOf k)) ∧ Below w.heap.size w w' := by
 have hu := Try.underlying114
 by_cases h0 : 0 ≤ k
 ·by_cases h1 : k < 15
  ·have d0 : decide (k < 0) = false := decide_eq_false (by omega)
   have d1 : decide (15 ≤ k) = false := decide_eq_false (by omega)
   have p0 : (0 ≤ k) = True := eq_true h0
   have p1 : (k < 15) = True := eq_true h1
   have e : wordOf k = words.getD k.toNat ⟨#[]⟩ := by unfold wordOf; rw [if_pos ⟨h0, h1⟩]
   have hc : (w.alloc (.cells (words.map Value.string).toArray 114)).cell? ⟨w.heap.size, k.toNat, none⟩ = some (.string (wordOf k)) := by
    rw [(blk_cell (heap_alloc_new w (.cells (words.map Value.string).toArray 114)) k.toNat), e, List.getElem?_toArray, List.getElem?_map]
    have hl : k.toNat < words.length := by show k.toNat < 15; omega
    rw [List.getElem?_eq_getElem hl, getD_lt words _ hl]
    rfl
   unfold words at hc
   simp only [List.map_cons, List.map_nil] at hc
   clear e h0 h1
   generalize wordOf k = r at hc ⊢
   go_enter Try.func34, Try.ntmps34
   go_wp2
   go_ret
   exact ⟨rfl, below_alloc (Below.refl _ _) _⟩
  ·have d0 : decide (k < 0) = false := decide_eq_false (by omega)
   have d1 : decide (15 ≤ k) = true := decide_eq_true (by omega)
   have e : wordOf k = ⟨#[]⟩ := by unfold wordOf; rw [if_neg (by omega)]
   rw [e]
   clear e h0 h1
   go_enter Try.func34, Try.ntmps34
   go_wp2
   go_ret
   exact ⟨rfl, below_alloc (Below.refl _ _) _⟩
 ·have d0 : decide (k < 0) = true := decide_eq_true (by omega)
  have e : wordOf k = ⟨#[]⟩ := by unfold wordOf; rw [if_neg (by omega)]
  rw [e]
  clear e h0
  go_enter Try.func34, Try.ntmps34
  go_wp2
  go_ret
  exact ⟨rfl, below_alloc (Below.refl _ _) _⟩
theorem rword_f (k : Int) : parcloseref23_Word.f k = some (wordOf k) := by
 unfold parcloseref23_Word.f wordOf
 show (if k < 0 then _ else (if k ≥ (words.length : Int) then _ else (if 0 ≤ k then (if k < (words.length : Int) then some (rdOf ByteArray.empty words k) else none) else none))) = _
 have hw : (words.length : Int) = 15 := rfl
 rw [hw]
 by_cases h0 : k < 0
 ·rw [if_pos h0, if_neg (by omega)]
 ·rw [if_neg h0]
  by_cases h1 : k ≥ 15
  ·rw [if_pos h1, if_neg (by omega)]
  ·rw [if_neg h1, if_pos (by omega), if_pos (by omega), if_pos (by omega)]
   rfl
theorem C_two {w : World} {g t : Nat} (h : w.heap[g]? = some (.cells #[.int .i64 3, .int .i64 0, .int .i64 0, .int .i64 0, .int .i64 0, .int .i64 0, .int .i64 0, .int .i64 0] t (0, 0))) : k65.C w (some ⟨g, 0, none⟩) [(⟨3, 0, 0, 0⟩ : S65), ⟨0, 0, 0, 0⟩].length [(⟨3, 0, 0, 0⟩ : S65), ⟨0, 0, 0, 0⟩] := by
 refine ⟨rfl, by simp, fun _ => ⟨_, rfl, ?_⟩⟩
 intro j p hp
 match j with
 | 0 =>
  cases hp
  refine ⟨[.int .i64 3, .int .i64 0, .int .i64 0, .int .i64 0], rfl, k65_mk w ⟨3, 0, 0, 0⟩, fun i u hu => ?_⟩
  rw [add_at, blk_cell h]
  match i with
  | 0 => exact hu
  | 1 => exact hu
  | 2 => exact hu
  | 3 => exact hu
  | i + 4 => exact absurd hu (by simp)
 | 1 =>
  cases hp
  refine ⟨[.int .i64 0, .int .i64 0, .int .i64 0, .int .i64 0], rfl, k65_mk w ⟨0, 0, 0, 0⟩, fun i u hu => ?_⟩
  rw [add_at, blk_cell h]
  match i with
  | 0 => exact hu
  | 1 => exact hu
  | 2 => exact hu
  | 3 => exact hu
  | i + 4 => exact absurd hu (by simp)
set_option maxHeartbeats 4000000 in
set_option maxRecDepth 100000 in
theorem knows_calls (w : World) : Calls Try.prog 14 #[] w fun e w' => e = .returned (.bool true) ∧ Below w.heap.size w w' := by
 have hu := Try.underlying65
 have WD : Aside0 (∀ w, Calls Try.prog 34 #[.int .i64 3] w fun e w' => e = .returned (.string ⟨#[114, 97, 110]⟩) ∧ Below w.heap.size w w') := ⟨word_calls 3⟩
 go_enter Try.func14, Try.ntmps14
 go_wp2_with fail
 refine (jnew_calls 1 w).mono ?_
 rintro e w1 ⟨rfl, hi, hb⟩
 have HI := asd hi
 have HB := asd hb
 have XB := asd (heap_alloc_new w1 (.cells #[Value.int .i64 3, .int .i64 0, .int .i64 0, .int .i64 0, .int .i64 0, .int .i64 0, .int .i64 0, .int .i64 0] 65))
 have HI1 := asd (hi.below (below_alloc (Below.refl _ _) (.cells #[Value.int .i64 3, .int .i64 0, .int .i64 0, .int .i64 0, .int .i64 0, .int .i64 0, .int .i64 0, .int .i64 0] 65)))
 have HB1 := asd (below_alloc hb (.cells #[Value.int .i64 3, .int .i64 0, .int .i64 0, .int .i64 0, .int .i64 0, .int .i64 0, .int .i64 0, .int .i64 0] 65))
 have ADD := asd (add_calls (room := 1) (lost := 0) (d := 2) _ HI1.out (C_two XB.out) (by decide) (by decide) (by decide) (by decide) (by decide) (by decide))
 clear hi hb
 go_wp2_with fail
 refine ADD.out.mono ?_
 rintro e w2 ⟨A', c', rfl, hi2, hc, _⟩
 have HI2 : Aside0 (IsLog w2 w.heap.size w.heap.size A' c' [(⟨3, 0, 0, 0⟩ : S65)] 1 1) := ⟨hi2⟩
 have HB2 := asd (HB1.out.trans (hc.to_below HI1.out.low (below_size HB1.out)))
 have ALL := asd (all_calls w2 HI2.out (by decide))
 clear hi2 hc ADD HI HI1 HB HB1 XB
 go_wp2_with fail
 refine ALL.out.mono ?_
 rintro e w3 ⟨v, rfl, ho, hb⟩
 have HI3 := asd (HI2.out.below hb)
 have HB3 := asd (below_step HB2.out hb)
 obtain ⟨A3, c3, rfl⟩ := Kd.R_slice ho
 have HC3 := asd (C_ofR ho)
 obtain ⟨ad, rfl, y0, _⟩ := at_T65 HC3.out 0 (by decide) (by decide)
 obtain ⟨g3, rfl⟩ := Kd.R_head ho
 have y0' : w3.cell? ⟨g3, 0, none⟩ = some (.int .i64 3) := by have h := y0; rw [add_plain] at h; exact h
 clear ho hb ALL y0
 go_wp2_with (first | (go_at_call 21; refine (lost_calls _ HI3.out).mono ?_; rintro e w4 ⟨rfl, rfl⟩) | (go_at_call 20; refine (len_calls _ HI3.out).mono ?_; rintro e w4 ⟨rfl, rfl⟩) | (go_at_call 34; refine (WD.out _).mono ?_; rintro e w4 ⟨rfl, hb⟩; have HB4 := asd (below_step HB3.out hb); clear hb))
 go_ret
 exact ⟨rfl, HB4.out⟩
end Go.Proofs.Ytalimpniimgheaa.Fn
namespace Go.Proofs.Ytalimpniimgheaa.Fn
open Go.RowKit Go.Proofs.YtalimpniimgheaaW.PrintWords Go.Proofs.YtalimpniimgheaaW.PrintLast Go.Proofs.YtalimpniimgheaaW.PrintMore
set_option linter.unusedVariables false
set_option linter.unusedSimpArgs false
attribute [local go_sem] max2_mx min2_mn max_two min_two
def jp10T : Bool × List (List Nat × List Nat) := (true, [([], []), ([], []), ([], []), ([1, 2], [1, 2]), ([3], [3]), ([4], [4]), ([0, 5, 5], [0, 5]), ([], []), ([], []), ([], []), ([8, 9], [8, 9]), ([10], [10]), ([7, 11, 6], [7, 11]), ([6, 12], [6, 12]), ([13, 12], [13]), ([14], [14]), ([15, 14, 14], [14, 15]), ([14], [14]), ([17, 14], [14, 17]), ([18, 14], [14, 18]), ([19, 14], [14, 19]), ([20, 14], [14, 20]), ([16, 21, 14], [14, 16, 21]), ([14, 22], [14, 22]), ([23, 16], [23]), ([24], [24]), ([25, 24, 24], [24, 25]), ([24], [24]), ([27, 24], [24, 27]), ([28, 24], [24, 28]), ([29, 24], [24, 29]), ([26, 30, 24], [24, 26, 30]), ([24, 31], [24, 31])])
def jp10B : List Nat := [0, 0, 0, 6, 14, 30, 63, 0, 0, 0, 768, 1792, 4095, 8191, 16383, 32767, 65535, 32767, 163839, 425983, 950271, 1998847, 4194303, 8388607, 16777215, 33554431, 67108863, 33554431, 167772159, 436207615, 973078527, 2147483647, 4294967295]
def jp12T : Bool × List (List Nat × List Nat) := (true, [([], []), ([0], [0]), ([1, 1], [1]), ([], []), ([3], [3]), ([4], [4]), ([5], [5]), ([2, 6, 2], [2, 6]), ([7, 7], [7]), ([8], [8]), ([8], [8]), ([9, 10, 8, 8], [8, 9, 10]), ([11, 11, 8], [8, 11]), ([8], [8]), ([8], [8]), ([13, 14, 12, 8], [8, 13, 14]), ([12, 15, 15, 8], [8, 12, 15]), ([8, 16], [8, 16]), ([17, 16, 0, 1, 2, 3, 4, 5, 6, 7, 8, 9, 10, 11, 12, 13, 14, 15, 16, 17], [17])])
def jp12B : List Nat := [0, 1, 3, 0, 8, 24, 56, 127, 255, 511, 511, 2047, 4095, 511, 511, 32767, 65535, 131071, 262143]
section
variable {base g : Nat} {A : Option Addr} {c : Nat} {ys es : List S64} {lost : Int} {E : Option Addr} {d : Nat} {room : Nat}
end
theorem same_calls {E E' : Option Addr} {c c' : Nat} (w : World) (a b : List S64) (h1 : k64.C w E a.length a) (h2 : a.length ≤ c) (h3 : k64.C w E' b.length b) (h4 : b.length ≤ c') (h5 : a.length ≤ 65536) :
  Calls Try.prog 22 #[.slice E a.length c, .slice E' b.length c'] w fun e w' => e = .returned (.bool (decide (a = b))) ∧ Drawn0 w w' := by
 obtain ⟨k, hk⟩ := same_f a b (by omega)
 exact parcloseref23_Same.calls k E c a E' c' b _ w h1 h2 h3 h4 hk
section
variable (r : Int) (A : Option Addr) (c : Nat) (l : List (List S64)) (KK : Option Addr) (dk : Nat) (ks : List Int)
end
end Go.Proofs.Ytalimpniimgheaa.Fn
namespace Go.Proofs.Ytalimpniimgheaa.Fn
open Go.RowKit Go.Proofs.YtalimpniimgheaaW.PrintWords Go.Proofs.YtalimpniimgheaaW.PrintLast Go.Proofs.YtalimpniimgheaaW.PrintMore
set_option linter.unusedVariables false
set_option linter.unusedSimpArgs false
attribute [local go_sem] max2_mx min2_mn max_two min_two
theorem esame_ev (a b : List S65) (hl : a.length = b.length) (ha : a.length ≤ 100000) : ∀ (n x : Nat), x + n = a.length → Ev (fun k => journal_Entry_77.l0 k a b (a.length : Int) (x : Int)) (decide (a.drop x = b.drop x)) := by
 intro n
 induction n with
 | zero =>
  intro x hx
  rw [List.drop_of_length_le (by omega), List.drop_of_length_le (by omega)]
  refine Ev.step (f := fun _ => some true) (fun k => by simp only [journal_Entry_77.l0]; rw [if_neg (by omega)]) ?_
  exact Ev.now _
 | succ n ih =>
  intro x hx
  have ea : a.drop x = a.getD x z65 :: a.drop (x + 1) := by rw [getD_lt a z65 (by omega)]; exact List.drop_eq_getElem_cons (by omega)
  have eb : b.drop x = b.getD x z65 :: b.drop (x + 1) := by rw [getD_lt b z65 (by omega)]; exact List.drop_eq_getElem_cons (by omega)
  have ra : rd_T65 a (x : Int) = a.getD x z65 := by unfold rd_T65; rw [Int.toNat_natCast]
  have rb : rd_T65 b (x : Int) = b.getD x z65 := by unfold rd_T65; rw [Int.toNat_natCast]
  by_cases he : a.getD x z65 = b.getD x z65
  ·have hd : decide (a.drop x = b.drop x) = decide (a.drop (x + 1) = b.drop (x + 1)) := by rw [ea, eb, he]; simp
   rw [hd]
   refine Ev.step (f := fun k => journal_Entry_77.l0 k a b (a.length : Int) ((x + 1 : Nat) : Int)) (fun k => by
    simp only [journal_Entry_77.l0]
    rw [if_pos (by omega), if_pos (by omega), if_pos (by omega), if_pos (by omega), ra, rb, he, if_neg (by simp), show wrap64 ((x : Int) + 1) = ((x + 1 : Nat) : Int) by unfold wrap64; omega]) (ih (x + 1) (by omega))
  ·have hd : decide (a.drop x = b.drop x) = false := decide_eq_false (by rw [ea, eb]; intro h; exact he (List.cons.inj h).1)
   rw [hd]
   refine Ev.step (f := fun _ => some false) (fun k => by
    simp only [journal_Entry_77.l0]
    rw [if_pos (by omega), if_pos (by omega), if_pos (by omega), if_pos (by omega), ra, rb, if_pos]
    have h4 : ¬ ((a.getD x z65).f0 = (b.getD x z65).f0 ∧ (a.getD x z65).f1 = (b.getD x z65).f1 ∧ (a.getD x z65).f2 = (b.getD x z65).f2 ∧ (a.getD x z65).f3 = (b.getD x z65).f3) := by
     rintro ⟨h0, h1, h2, h3⟩
     apply he
     cases h5 : a.getD x z65
     cases h6 : b.getD x z65
     simp_all
    simp only [Bool.or_eq_true, Bool.not_eq_true', beq_eq_false_iff_ne, ne_eq]
    omega) (Ev.now _)
theorem journalSame_calls {E E' : Option Addr} {c c' : Nat} (w : World) (a b : List S65) (h1 : k65.C w E a.length a) (h2 : a.length ≤ c) (h3 : k65.C w E' b.length b) (h4 : b.length ≤ c') (h5 : a.length ≤ 65536) :
  Calls Try.prog 36 #[.slice E a.length c, .slice E' b.length c'] w fun e w' => e = .returned (.bool (decide (a = b))) ∧ Drawn0 w w' := by
 have h : ∃ k, journal_Entry_77.f k a b = some (decide (a = b)) := by
  unfold journal_Entry_77.f
  by_cases h : a.length = b.length
  ·have h2 := esame_ev a b h (by omega) a.length 0 (by omega)
   simp only [List.drop_zero] at h2
   obtain ⟨k, hk⟩ := h2.rounds
   exact ⟨k, by rw [if_pos (by omega)]; exact hk⟩
  ·exact ⟨0, by rw [if_neg (by omega), decide_eq_false (fun e => h (by rw [e]))]⟩
 obtain ⟨k, hk⟩ := h
 exact journal_Same.calls k E c a E' c' b _ w h1 h2 h3 h4 (by unfold journal_Same.f; rw [hk]; rfl)
theorem map_toE_inj (a b : List S64) : decide (a.map toE = b.map toE) = decide (a = b) := by
 refine decide_eq_decide.2 ⟨fun h => ?_, fun h => by rw [h]⟩
 have := congrArg (List.map toR) h
 rwa [map_RE, map_RE] at this
theorem owns_calls {E : Option Addr} {c : Nat} (w : World) (es : List S64) (h : k64.C w E es.length es) (hc : es.length ≤ c) (hl : es.length ≤ 65536) :
  Calls Try.prog 18 #[.slice E es.length c] w fun e w' => ∃ v, e = .returned v ∧ Kd.R k65 65 w' w.heap.size (fun _ => True) v (es.map toE) ∧ Below w.heap.size w w' := by
 obtain ⟨k, hk⟩ := owns_f es hl
 exact parcloselaw23_owns.calls k E c es (es.map toE) w h hc hk
theorem rword_calls (k : Int) (w : World) : Calls Try.prog 35 #[.int .i64 k] w fun e w' => e = .returned (.string (wordOf k)) ∧ Below w.heap.size w w' :=
 parcloseref23_Word.calls k _ w (rword_f k)
set_option maxHeartbeats 4000000 in
set_option maxRecDepth 100000 in
theorem of_nil {K : Option Addr} {d : Nat} (ks : List Int) (w : World) (hk : (Kd.int .i64).C w K ks.length ks) (hkl : ks.length ≤ 100000) : Calls Try.prog 25 #[.pointer none, .slice K ks.length d] w fun e w' => e = .returned (.slice none 0 0) ∧ Below w.heap.size w w' := by
 have BX := asd (heap_alloc_new w (.cells #[.slice K ks.length d] 23))
 have HB0 := asd (below_alloc (Below.refl _ w) (.cells #[.slice K ks.length d] 23))
 have CL := asd (fun wr x (hb : Below (w.alloc (.cells #[.slice K ks.length d] 23)).heap.size (w.alloc (.cells #[.slice K ks.length d] 23)) wr) => clos69_calls K d ks ⟨w.heap.size, 0, none⟩ x wr (pw_cell_below hb ((blk_cell BX.out 0).trans rfl)) (Kd.C_below (Kd.C_below hk (below_alloc (Below.refl _ _) (.cells #[.slice K ks.length d] 23))) hb) hkl)
 have DN := asd (del69_nil ⟨w.heap.size, 0, none⟩ (fun x => !(ks.any (fun y => decide (x.f1 = y)))) _ CL.out)
 clear hk hkl
 go_enter Try.func25, Try.ntmps25
 go_wp2_with (first | (go_at_call 24; refine (all_nil _).mono ?_; rintro e w2 ⟨rfl, rfl⟩) | (go_at_call 68; refine DN.out.mono ?_; rintro e w2 ⟨rfl, hb⟩; have HB2 := asd (below_then HB0.out (by simp) hb); clear hb))
 go_ret
 exact ⟨rfl, HB2.out⟩
theorem C_int1 {w : World} {g t : Nat} (x : Int) (h : w.heap[g]? = some (.cells #[.int .i64 x] t (0, 0))) : (Kd.int .i64).C w (some ⟨g, 0, none⟩) [x].length [x] := by
 refine ⟨rfl, by simp, fun _ => ⟨_, rfl, ?_⟩⟩
 intro j p hp
 match j with
 | 0 =>
  cases hp
  refine ⟨[.int .i64 x], rfl, rfl, fun i u hu => ?_⟩
  rw [add_at, blk_cell h]
  match i with
  | 0 => exact hu
  | i + 1 => exact absurd hu (by simp)
section
variable (r : Int) (A : Option Addr) (c : Nat) (a : List S64) (B : Option Addr) (d : Nat) (b : List S64)
set_option maxHeartbeats 4000000 in
set_option maxRecDepth 100000 in
theorem jwords_dark (w : World) (hn : ¬ (a.length ≤ 100 ∧ b.length ≤ 100)) :
  Calls Try.prog 5 #[.int .i64 r, .slice A a.length c, .slice B b.length d] w fun e w' => e = .returned (.bool true) ∧ Below w.heap.size w w' := by
 by_cases h1 : 100 < (a.length : Int)
 ·have d1 : decide (100 < (a.length : Int)) = true := decide_eq_true h1
  clear hn h1
  go_enter Try.func5, Try.ntmps5
  go_wp2_with (first | (go_at_call 14; refine (knows_calls _).mono ?_; rintro e w7 ⟨rfl, hb⟩; have HB2 := asd hb; clear hb))
  go_ret
  exact ⟨rfl, HB2.out⟩
 ·have d1 : decide (100 < (a.length : Int)) = false := decide_eq_false h1
  have d2 : decide (100 < (b.length : Int)) = true := decide_eq_true (by omega)
  clear hn h1
  go_enter Try.func5, Try.ntmps5
  go_wp2_with (first | (go_at_call 14; refine (knows_calls _).mono ?_; rintro e w7 ⟨rfl, hb⟩; have HB2 := asd hb; clear hb))
  go_ret
  exact ⟨rfl, HB2.out⟩
set_option maxHeartbeats 32000000 in
set_option maxRecDepth 100000 in
theorem jwords_light (w : World) (h : k64.C w A a.length a) (hc : a.length ≤ c) (hk : k64.C w B b.length b) (hd : b.length ≤ d) (hn : a.length ≤ 100) (hm : b.length ≤ 100) :
  Calls Try.prog 5 #[.int .i64 r, .slice A a.length c, .slice B b.length d] w fun e w' => e = .returned (.bool true) ∧ Below w.heap.size w w' := by
 have HA := asd h
 have HK := asd hk
 have HN := asd (And.intro hn (And.intro hm (And.intro hc hd)))
 have d1 : decide (100 < (a.length : Int)) = false := decide_eq_false (by omega)
 have d2 : decide (100 < (b.length : Int)) = false := decide_eq_false (by omega)
 clear h hk hn hm hc hd
 go_enter Try.func5, Try.ntmps5
 go_wp2_with fail
 refine (owns_calls w a HA.out HN.out.2.2.1 (by have := HN.out; omega)).mono ?_
 rintro e w1 ⟨v1, rfl, ho, hb⟩
 have HB1 := asd hb
 clear ho hb
 go_wp2_with fail
 refine (add_nil v1 w1).mono ?_
 rintro e w2 ⟨rfl, rfl⟩
 go_wp2_with fail
 refine (len_nil w1).mono ?_
 rintro e w2 ⟨rfl, rfl⟩
 go_wp2_with fail
 refine (lost_nil w1).mono ?_
 rintro e w2 ⟨rfl, rfl⟩
 go_wp2_with fail
 refine (all_nil w1).mono ?_
 rintro e w2 ⟨rfl, rfl⟩
 go_wp2_with fail
 refine (of_nil (d := 1) [r] _ (C_int1 r (heap_alloc_new w1 _)) (by simp)).mono ?_
 rintro e w2 ⟨rfl, hb⟩
 have HB2 := asd (below_then (below_alloc HB1.out _) (by have := below_size HB1.out; simp; omega) hb)
 clear hb
 go_wp2_with fail
 refine (word_calls r w2).mono ?_
 rintro e w3 ⟨rfl, hb⟩
 have HB3 := asd (below_step HB2.out hb)
 clear hb
 generalize hr : wordOf r = rs
 have HRS := asd hr
 clear hr
 go_wp2_with fail
 refine (rword_calls r w3).mono ?_
 rw [HRS.out]
 rintro e w4 ⟨rfl, hb⟩
 have HB4 := asd (below_step HB3.out hb)
 clear hb
 go_wp2_with fail
 refine (owns_calls w4 a (Kd.C_below HA.out HB4.out) HN.out.2.2.1 (by have := HN.out; omega)).mono ?_
 rintro e w5 ⟨v5, rfl, ho, hb⟩
 obtain ⟨E5, e5, rfl⟩ := Kd.R_slice ho
 have HB5 := asd (below_step HB4.out hb)
 have HE5 := asd (C_ofR ho)
 have HD5 := asd (Kd.R_reads' ho).2.1
 clear ho hb
 go_wp2_with fail
 refine (owns_calls w5 b (Kd.C_below HK.out HB5.out) HN.out.2.2.2 (by have := HN.out; omega)).mono ?_
 rintro e w6 ⟨v6, rfl, ho, hb⟩
 obtain ⟨E6, e6, rfl⟩ := Kd.R_slice ho
 have HB6 := asd (below_step HB5.out hb)
 have HE6 := asd (C_ofR ho)
 have HD6 := asd (Kd.R_reads' ho).2.1
 have HE56 := asd (Kd.C_below HE5.out hb)
 clear ho hb
 go_wp2_with fail
 have JS := journalSame_calls w6 (a.map toE) (b.map toE) HE56.out HD5.out HE6.out HD6.out (by rw [List.length_map]; have := HN.out; omega)
 rw [map_toE_inj, List.length_map, List.length_map] at JS
 refine JS.mono ?_
 clear JS
 rintro e w7 ⟨rfl, hq⟩
 have HB7 := asd (below_step HB6.out hq.below)
 clear hq
 go_wp2_with fail
 refine (same_calls w7 a b (Kd.C_below HA.out HB7.out) HN.out.2.2.1 (Kd.C_below HK.out HB7.out) HN.out.2.2.2 (by have := HN.out; omega)).mono ?_
 rintro e w8 ⟨rfl, hq⟩
 have HB8 := asd (below_step HB7.out hq.below)
 clear hq
 generalize decide (a = b) = ab
 go_wp2_with fail
 refine (owns_calls w8 a (Kd.C_below HA.out HB8.out) HN.out.2.2.1 (by have := HN.out; omega)).mono ?_
 rintro e w9 ⟨v9, rfl, ho, hb⟩
 obtain ⟨E9, e9, rfl⟩ := Kd.R_slice ho
 have HB9 := asd (below_step HB8.out hb)
 have HE9 := asd (C_ofR ho)
 have HD9 := asd (Kd.R_reads' ho).2.1
 clear ho hb
 go_wp2_with fail
 refine (owns_calls w9 a (Kd.C_below HA.out HB9.out) HN.out.2.2.1 (by have := HN.out; omega)).mono ?_
 rintro e w10 ⟨v10, rfl, ho, hb⟩
 obtain ⟨E10, e10, rfl⟩ := Kd.R_slice ho
 have HB10 := asd (below_step HB9.out hb)
 have HE10 := asd (C_ofR ho)
 have HD10 := asd (Kd.R_reads' ho).2.1
 have HE910 := asd (Kd.C_below HE9.out hb)
 clear ho hb
 go_wp2_with fail
 have JS := journalSame_calls w10 (a.map toE) (a.map toE) HE910.out HD9.out HE10.out HD10.out (by rw [List.length_map]; have := HN.out; omega)
 rw [show decide (a.map toE = a.map toE) = true by simp, List.length_map] at JS
 refine JS.mono ?_
 clear JS
 rintro e w11 ⟨rfl, hq⟩
 have HB11 := asd (below_step HB10.out hq.below)
 clear hq
 go_wp2_with (first | (go_at_call 14; refine (knows_calls _).mono ?_; rintro e w12 ⟨rfl, hb⟩; have HB12 := asd (below_step HB11.out hb); clear hb))
 go_ret
 exact ⟨rfl, HB12.out⟩
end
end Go.Proofs.Ytalimpniimgheaa.Fn
