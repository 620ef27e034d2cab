/- Part of the proof of PackGets: see the last text. (Words laid by the print, as far as they are named here; walks written by a program of this project; plain laws.) -/
import Derived.Test.YtalimpniimgheaaPackGetsZ0
namespace Go.Proofs.Ytalimpniimgheaa.Fn
open Go.RowKit Go.Proofs.YtalimpniimgheaaW.PrintWords Go.Proofs.YtalimpniimgheaaW.PrintLast Go.Proofs.YtalimpniimgheaaW.PrintMore
abbrev bn := @blk_drewN
abbrev bd := @blk_drew
abbrev ba := @blk_alloc
abbrev asd := @Aside0.mk
abbrev wa := @below_alloc
abbrev wn := @pw_below_drewN
abbrev wd := @below_drew1
abbrev ws := @below_set
theorem sB : (∀ (l : List Value) (i : Nat) (a : Value), l.toArray.setIfInBounds i a = (l.set i a).toArray) ∧ (∀ (a b : Value) (l : List Value), (a :: l).set 0 b = b :: l) ∧ (∀ (a b : Value) (l : List Value) (n : Nat), (a :: l).set (n + 1) b = a :: l.set n b) := ⟨fun _ _ _ => List.setIfInBounds_toArray .., fun _ _ _ => rfl, fun _ _ _ _ => rfl⟩
end Go.Proofs.Ytalimpniimgheaa.Fn

namespace Go.Proofs.Ytalimpniimgheaa.Fn
open Go.RowKit Go.Proofs.YtalimpniimgheaaW.PrintWords Go.Proofs.YtalimpniimgheaaW.PrintLast Go.Proofs.YtalimpniimgheaaW.PrintMore
attribute [local go_sem] max2_int min2_int max_two min_two max_three min_three max_four min_four
set_option linter.unusedVariables false
set_option linter.unusedSimpArgs false
def errW : Option Int → Value
 | none => .nilIface
 | some c => .iface 0 (.int .i64 c)
theorem errW_none : errW none = .nilIface := rfl
theorem errW_some (c : Int) : errW (some c) = .iface 0 (.int .i64 c) := rfl
theorem info3 : (Try.prog.info? 3).map (fun i => (i.zero, i.size, i.bytes)) = some (some (.int .i64 0), 1, 8) := by kernel_rfl
theorem info5 : (Try.prog.info? 5).map (fun i => (i.zero, i.size, i.bytes)) = some (some (.int .u8 0), 1, 1) := by kernel_rfl
theorem info64 : (Try.prog.info? 64).map (fun i => (i.zero, i.size, i.bytes)) = some (some (.agg #[(.int .i64 0), (.int .i64 0), (.int .i64 0), (.int .i64 0)]), 4, 32) := by kernel_rfl
theorem info65 : (Try.prog.info? 65).map (fun i => (i.zero, i.size, i.bytes)) = some (some (.agg #[(.int .i64 0), (.int .i64 0), (.int .i64 0), (.int .i64 0)]), 4, 32) := by kernel_rfl
structure S65 where
 f0 : Int
 f1 : Int
 f2 : Int
 f3 : Int
def z65 : S65 := ⟨(0 : Int), (0 : Int), (0 : Int), (0 : Int)⟩
def k65 : Kd S65 := Kd.iso (Kd.pair (Kd.int .i64) (Kd.pair (Kd.int .i64) (Kd.pair (Kd.int .i64) (Kd.int .i64)))) (fun x : S65 => (x.f0, x.f1, x.f2, x.f3))
theorem k65_open {w : World} {x : S65} {cs : List Value} (h : k65.K w x cs) : cs = [.int .i64 x.f0, .int .i64 x.f1, .int .i64 x.f2, .int .i64 x.f3] := by
 obtain ⟨_, _, rfl, rfl, ⟨_, _, rfl, rfl, ⟨_, _, rfl, rfl, rfl⟩⟩⟩ := h
 exact rfl
theorem k65_mk (w : World) (x : S65)  : k65.K w x [.int .i64 x.f0, .int .i64 x.f1, .int .i64 x.f2, .int .i64 x.f3] := ⟨[.int .i64 x.f0], [.int .i64 x.f1, .int .i64 x.f2, .int .i64 x.f3], rfl, rfl, ⟨[.int .i64 x.f1], [.int .i64 x.f2, .int .i64 x.f3], rfl, rfl, ⟨[.int .i64 x.f2], [.int .i64 x.f3], rfl, rfl, rfl⟩⟩⟩
theorem k65_mkM (w : World) (base : Nat) (ok : Nat → Prop) (x : S65)  : k65.M w base ok x [.int .i64 x.f0, .int .i64 x.f1, .int .i64 x.f2, .int .i64 x.f3] := ⟨[.int .i64 x.f0], [.int .i64 x.f1, .int .i64 x.f2, .int .i64 x.f3], rfl, rfl, ⟨[.int .i64 x.f1], [.int .i64 x.f2, .int .i64 x.f3], rfl, rfl, ⟨[.int .i64 x.f2], [.int .i64 x.f3], rfl, rfl, rfl⟩⟩⟩
def rd_T65 (xs : List S65) (i : Int) : S65 := xs.getD i.toNat z65
theorem at_T65 {w : World} {A : Option Addr} {n : Nat} {xs : List S65} (h : Kd.C k65 w A n xs) (i : Int) (h0 : 0 ≤ i) (h1 : i < n) : ∃ ad , A = some ad ∧ w.cell? (ad.add (i.toNat * 4)) = some (.int .i64 (rd_T65 xs i).f0) ∧ w.cell? ⟨(ad.add (i.toNat * 4)).block, (ad.add (i.toNat * 4)).off + 1, none⟩ = some (.int .i64 (rd_T65 xs i).f1) ∧ w.cell? ⟨(ad.add (i.toNat * 4)).block, (ad.add (i.toNat * 4)).off + 2, none⟩ = some (.int .i64 (rd_T65 xs i).f2) ∧ w.cell? ⟨(ad.add (i.toNat * 4)).block, (ad.add (i.toNat * 4)).off + 3, none⟩ = some (.int .i64 (rd_T65 xs i).f3) := by
 obtain ⟨ad, c, e, _, hK, hc0⟩ := Kd.C_get h z65 i h0 h1
 have hc : ∀ j u, c[j]? = some u → w.cell? (ad.add (i.toNat * 4 + j)) = some u := hc0
 obtain rfl := k65_open hK
 exact ⟨ad, e, hc 0 _ rfl, by rw [← add_field _ _ 1 (by omega)]; exact hc 1 _ rfl, by rw [← add_field _ _ 2 (by omega)]; exact hc 2 _ rfl, by rw [← add_field _ _ 3 (by omega)]; exact hc 3 _ rfl⟩
structure S64 where
 f0 : Int
 f1 : Int
 f2 : Int
 f3 : Int
def z64 : S64 := ⟨(0 : Int), (0 : Int), (0 : Int), (0 : Int)⟩
def k64 : Kd S64 := Kd.iso (Kd.pair (Kd.int .i64) (Kd.pair (Kd.int .i64) (Kd.pair (Kd.int .i64) (Kd.int .i64)))) (fun x : S64 => (x.f0, x.f1, x.f2, x.f3))
theorem k64_open {w : World} {x : S64} {cs : List Value} (h : k64.K w x cs) : cs = [.int .i64 x.f0, .int .i64 x.f1, .int .i64 x.f2, .int .i64 x.f3] := by
 obtain ⟨_, _, rfl, rfl, ⟨_, _, rfl, rfl, ⟨_, _, rfl, rfl, rfl⟩⟩⟩ := h
 exact rfl
theorem k64_mkM (w : World) (base : Nat) (ok : Nat → Prop) (x : S64)  : k64.M w base ok x [.int .i64 x.f0, .int .i64 x.f1, .int .i64 x.f2, .int .i64 x.f3] := ⟨[.int .i64 x.f0], [.int .i64 x.f1, .int .i64 x.f2, .int .i64 x.f3], rfl, rfl, ⟨[.int .i64 x.f1], [.int .i64 x.f2, .int .i64 x.f3], rfl, rfl, ⟨[.int .i64 x.f2], [.int .i64 x.f3], rfl, rfl, rfl⟩⟩⟩
def rd_T64 (xs : List S64) (i : Int) : S64 := xs.getD i.toNat z64
theorem at_T64 {w : World} {A : Option Addr} {n : Nat} {xs : List S64} (h : Kd.C k64 w A n xs) (i : Int) (h0 : 0 ≤ i) (h1 : i < n) : ∃ ad , A = some ad ∧ w.cell? (ad.add (i.toNat * 4)) = some (.int .i64 (rd_T64 xs i).f0) ∧ w.cell? ⟨(ad.add (i.toNat * 4)).block, (ad.add (i.toNat * 4)).off + 1, none⟩ = some (.int .i64 (rd_T64 xs i).f1) ∧ w.cell? ⟨(ad.add (i.toNat * 4)).block, (ad.add (i.toNat * 4)).off + 2, none⟩ = some (.int .i64 (rd_T64 xs i).f2) ∧ w.cell? ⟨(ad.add (i.toNat * 4)).block, (ad.add (i.toNat * 4)).off + 3, none⟩ = some (.int .i64 (rd_T64 xs i).f3) := by
 obtain ⟨ad, c, e, _, hK, hc0⟩ := Kd.C_get h z64 i h0 h1
 have hc : ∀ j u, c[j]? = some u → w.cell? (ad.add (i.toNat * 4 + j)) = some u := hc0
 obtain rfl := k64_open hK
 exact ⟨ad, e, hc 0 _ rfl, by rw [← add_field _ _ 1 (by omega)]; exact hc 1 _ rfl, by rw [← add_field _ _ 2 (by omega)]; exact hc 2 _ rfl, by rw [← add_field _ _ 3 (by omega)]; exact hc 3 _ rfl⟩
structure S97 where
 f0 : Int
 f1 : Int
 f2 : Int
 f3 : Int
def z97 : S97 := ⟨(0 : Int), (0 : Int), (0 : Int), (0 : Int)⟩
def k97 : Kd S97 := Kd.iso (Kd.pair (Kd.int .i64) (Kd.pair (Kd.int .i64) (Kd.pair (Kd.int .i64) (Kd.int .i64)))) (fun x : S97 => (x.f0, x.f1, x.f2, x.f3))
def rd_T97 (xs : List S97) (i : Int) : S97 := xs.getD i.toNat z97
structure S110 where
 f0 : Int
 f1 : Int
 f2 : Int
 f3 : Int
def z110 : S110 := ⟨(0 : Int), (0 : Int), (0 : Int), (0 : Int)⟩
def k110 : Kd S110 := Kd.iso (Kd.pair (Kd.int .i64) (Kd.pair (Kd.int .i64) (Kd.pair (Kd.int .i64) (Kd.int .i64)))) (fun x : S110 => (x.f0, x.f1, x.f2, x.f3))
def rd_T110 (xs : List S110) (i : Int) : S110 := xs.getD i.toNat z110
def rd_L7 (xs : List (List S64)) (i : Int) : (List S64) := xs.getD i.toNat ([] : List S64)
structure S67 where
 f0 : Int
 f1 : S65
def z67 : S67 := ⟨(0 : Int), z65⟩
def k67 : Kd S67 := Kd.iso (Kd.pair (Kd.int .i64) k65) (fun x : S67 => (x.f0, x.f1))
def rd_T67 (xs : List S67) (i : Int) : S67 := xs.getD i.toNat z67
structure S117 where
 f0 : Int
 f1 : S64
def z117 : S117 := ⟨(0 : Int), z64⟩
def k117 : Kd S117 := Kd.iso (Kd.pair (Kd.int .i64) k64) (fun x : S117 => (x.f0, x.f1))
def rd_T117 (xs : List S117) (i : Int) : S117 := xs.getD i.toNat z117
def rd_L10 (xs : List (List S65)) (i : Int) : (List S65) := xs.getD i.toNat ([] : List S65)
def rd_L11 (xs : List (List S97)) (i : Int) : (List S97) := xs.getD i.toNat ([] : List S97)
end Go.Proofs.Ytalimpniimgheaa.Fn
namespace Go.Proofs.Ytalimpniimgheaa.Fn
open Go.RowKit Go.Proofs.YtalimpniimgheaaW.PrintWords Go.Proofs.YtalimpniimgheaaW.PrintLast Go.Proofs.YtalimpniimgheaaW.PrintMore
set_option linter.unusedVariables false
set_option linter.unusedSimpArgs false
def Opens (P : Program) (t : TypeId) {α : Type} (d : Kd α) (Q : α → Prop) : Prop :=
 ∀ (H : Type) (enc : TypeId × Value → H) (w : World) (base : Nat) (spare : Nat → Bool) (held : Bool) (fuel : Nat) (cs : List Value) (x : DataW H × List MemPlace),
  DataW.trod enc P w base spare held fuel t cs = some x → ∃ a : α, d.K w a cs ∧ Q a
def qInt (k : IntKind) (n : Int) : Prop := (Lit.int k n).wf = true
def qAny {α : Type} (_ : α) : Prop := True
def qStr (s : ByteArray) : Prop := s.size ≤ maxLen
def qList {α : Type} (Q : α → Prop) (xs : List α) : Prop := xs.length ≤ maxLen ∧ ∀ x ∈ xs, Q x
theorem opens_int {P : Program} {t : TypeId} {k : IntKind} (ht : P.underlying t = some (.int k)) : Opens P t (Kd.int k) (qInt k) := by
 intro H enc w base spare held fuel cs x h
 obtain ⟨n, e, _, hw⟩ := DataW.trod_int ht h
 exact ⟨n, e, hw⟩
theorem list_of {α : Type} {p : Nat → α → Prop} : ∀ n, (∀ i, i < n → ∃ a, p i a) → ∃ xs : List α, xs.length = n ∧ ∀ i a, xs[i]? = some a → p i a
 | 0, _ => ⟨[], rfl, fun i a h => by simp at h⟩
 | n + 1, h => by
  obtain ⟨xs, hl, hx⟩ := list_of n (fun i hi => h i (by omega))
  obtain ⟨a, ha⟩ := h n (by omega)
  refine ⟨xs ++ [a], by simp [hl], fun i b hb => ?_⟩
  rcases Nat.lt_trichotomy i n with hi | hi | hi
  ·rw [List.getElem?_append_left (by omega)] at hb
   exact hx i b hb
  ·subst hi
   rw [← hl] at hb
   simp at hb
   subst hb
   rw [hl] at *
   exact ha
  ·rw [List.getElem?_eq_none (by simp [hl]; omega)] at hb
   cases hb
theorem opens_slice {P : Program} {t e : TypeId} {α : Type} {d : Kd α} {Q : α → Prop} (ht : P.underlying t = some (.slice e)) (hc : P.cellsOf e = d.sz) (ho : Opens P e d Q) : Opens P t (Kd.slice e d) (qList Q) := by
 intro H enc w base spare held fuel cs x h
 rcases Go.Deep.open_slice ht h with ⟨rfl, _⟩ | ⟨a, len, cap, m, n, D, Pl, rfl, _, hl, hm, hmm, _, hx⟩
 ·exact ⟨[], ⟨none, 0, rfl, Nat.le_refl _, Kd.C_nil _ _⟩, by simp, fun x hx => by cases hx⟩
 ·have hlm : len ≤ m := by rw [hmm]; split <;> omega
  obtain ⟨xs, hxl, hxs⟩ := list_of (p := fun i a' => ∃ cs', w.cells? base (a.add (i * P.cellsOf e)) (P.cellsOf e) = some cs' ∧ d.K w a' cs' ∧ Q a') len (fun i hi => by
   obtain ⟨cs', h1, h2⟩ := hx i (by omega)
   obtain ⟨a', h3, h4⟩ := ho H enc w base spare held n cs' _ h2
   exact ⟨a', cs', h1, h3, h4⟩)
  refine ⟨xs, ⟨some a, cap, by rw [hxl], by omega, ?_⟩, by omega, fun x hx => ?_⟩
  ·refine ⟨rfl, by rw [hxl]; unfold maxLen at hm; omega, fun _ => ⟨a, rfl, ?_⟩⟩
   intro j p hp
   obtain ⟨cs', h1, h2, _⟩ := hxs j p hp
   obtain ⟨_, hcl, hci⟩ := World.cells?_some h1
   refine ⟨cs', by rw [hcl, hc], h2, fun i u hu => ?_⟩
   have hi : i < cs'.length := (List.getElem?_eq_some_iff.1 hu).1
   have h4 := hci i (by omega)
   rw [hu, Go.Deep.add_add, hc] at h4
   exact h4
  ·obtain ⟨i, hi, rfl⟩ := List.mem_iff_getElem.1 hx
   obtain ⟨_, _, _, hq⟩ := hxs i _ (List.getElem?_eq_getElem hi)
   exact hq
end Go.Proofs.Ytalimpniimgheaa.Fn
namespace Go.Proofs.Ytalimpniimgheaa.Fn
open Go.RowKit Go.Proofs.YtalimpniimgheaaW.PrintWords Go.Proofs.YtalimpniimgheaaW.PrintLast Go.Proofs.YtalimpniimgheaaW.PrintMore
set_option linter.unusedVariables false
set_option linter.unusedSimpArgs false
structure Chg (S : Nat → Prop) (w w' : World) : Prop where
 os : w'.os = w.os
 tape : w'.tape = w.tape
 output : w'.output = w.output
 size : w.heap.size ≤ w'.heap.size
 block : ∀ k, k < w.heap.size → ¬ S k → w'.heap[k]? = w.heap[k]?
section
variable {S S2 : Nat → Prop} {w w1 w2 : World} {B : Nat}
theorem Chg.refl (S : Nat → Prop) (w : World) : Chg S w w := ⟨rfl, rfl, rfl, Nat.le_refl _, fun _ _ _ => rfl⟩
theorem Chg.then_ (h : Chg S w w1) (k : Chg S2 w1 w2) (hs : ∀ k, S2 k → S k ∨ w.heap.size ≤ k) : Chg S w w2 :=
 ⟨k.os.trans h.os, k.tape.trans h.tape, k.output.trans h.output, Nat.le_trans h.size k.size, fun i hi hn => (k.block i (Nat.lt_of_lt_of_le hi h.size) (fun h2 => (hs i h2).elim hn (fun h3 => by omega))).trans (h.block i hi hn)⟩
theorem Chg.trans (h : Chg S w w1) (k : Chg S w1 w2) : Chg S w w2 := h.then_ k (fun _ h => .inl h)
theorem Chg.mono (h : Chg S w w1) (hs : ∀ k, S k → S2 k) : Chg S2 w w1 := ⟨h.os, h.tape, h.output, h.size, fun i hi hn => h.block i hi (fun hk => hn (hs i hk))⟩
theorem Chg.of_below (h : Below w.heap.size w w1) (S : Nat → Prop) : Chg S w w1 := ⟨h.os, h.tape, h.output, h.size, fun i hi _ => h.block i hi⟩
theorem Chg.of_belowB (h : Below B w w1) : Chg (fun k => B ≤ k) w w1 := ⟨h.os, h.tape, h.output, h.size, fun i hi hn => h.block i (by omega)⟩
theorem Chg.to_below (h : Chg S w w1) (hS : ∀ k, S k → B ≤ k) (hB : B ≤ w.heap.size) : Below B w w1 := ⟨h.os, h.tape, h.output, h.size, fun k hk => h.block k (by omega) (fun hs => by have := hS k hs; omega)⟩
theorem Chg.below (h : Chg S w w1) (k : Below w1.heap.size w1 w2) : Chg S w w2 := h.then_ (Chg.of_below k (fun _ => False)) (fun _ hk => hk.elim)
theorem Chg.alloc (h : Chg S w w1) (o : Obj) : Chg S w (w1.alloc o) := h.below (below_alloc (Below.refl _ _) o)
theorem Chg.drew (h : Chg S w w1) : Chg S w w1.drew := ⟨h.os, h.tape, h.output, h.size, h.block⟩
theorem Chg.drewN (h : Chg S w w1) (n : Nat) : Chg S w (w1.drewN n) := ⟨h.os, h.tape, h.output, h.size, h.block⟩
theorem Chg.set_ (h : Chg S w w1) {p : Addr} (hp : S p.block ∨ w.heap.size ≤ p.block) (u : Value) : Chg S w (w1.setCell p u) :=
 h.then_ (S2 := fun k => k = p.block) ⟨rfl, rfl, rfl, by simp [World.setCell], fun i _ hn => Below.heap_setCell w1 p u i hn⟩ (fun k hk => by rw [hk]; exact hp)
theorem Chg.grown (h : Chg S w w1) {row : Option Nat} (hg : w1.grownBy w2 row) (hr : ∀ k, row = some k → S k ∨ w.heap.size ≤ k) : Chg S w w2 :=
 h.then_ (S2 := fun k => row = some k) ⟨hg.os, hg.tape, hg.output, hg.size, fun i hi hn => hg.block i hi (fun he => hn he.symm)⟩ hr
theorem blk_chg {g : Nat} {o : Obj} (hb : w.heap[g]? = some o) (hk : Chg S w w1) (hne : ¬ S g) : w1.heap[g]? = some o := (hk.block g (blk_lt hb) hne).trans hb
theorem R_chg {α : Type} {d : Kd α} {e base : Nat} {ok : Nat → Prop} {v : Value} {xs : List α} (h : d.R e w base ok v xs) (hk : Chg S w w1) (hne : ∀ k, ok k → ¬ S k) : d.R e w1 base ok v xs := Kd.R_step h (fun k ho hlt => hk.block k hlt (hne k ho))
theorem R_chgB {α : Type} {d : Kd α} {e base : Nat} {ok : Nat → Prop} {v : Value} {xs : List α} (h : d.R e w base ok v xs) (hk : Chg S w w1) (hne : ∀ k, S k → k < base) : d.R e w1 base ok v xs :=
 Kd.R_mono (R_chg (Kd.R_bound h) hk (fun k hk hs => by have := hne k hs; have := hk.2.1; omega)) (fun _ h => h.1)
def OfTypes (ts : List Nat) (w : World) (S : Nat → Prop) : Prop := ∀ k, S k → k < w.heap.size → ∃ t cells, t ∈ ts ∧ w.heap[k]? = some (.cells cells t (0, 0))
theorem C_ofR {α : Type} {d : Kd α} {e base n c : Nat} {ok : Nat → Prop} {A : Option Addr} {xs : List α} (h : d.R e w base ok (.slice A n c) xs) : d.C w A xs.length xs := (Kd.R_reads' h).2.2
theorem getD_lt {α : Type} (l : List α) (z : α) {n : Nat} (h : n < l.length) : l.getD n z = l[n] := by simp [List.getD, h]
end
end Go.Proofs.Ytalimpniimgheaa.Fn
namespace Go.Proofs.Ytalimpniimgheaa.Fn
open Go.RowKit Go.Proofs.YtalimpniimgheaaW.PrintWords Go.Proofs.YtalimpniimgheaaW.PrintLast Go.Proofs.YtalimpniimgheaaW.PrintMore
set_option linter.unusedVariables false
set_option linter.unusedSimpArgs false
theorem p256_pos (s : Nat) : (0 : Int) < 256 ^ s := Int.pow_pos (by omega)
def numB : Nat → Int → List Int
 | 0, _ => []
 | s + 1, n => (n / 256 ^ s % 256) :: numB s n
def Fits (s : Nat) (n : Int) : Prop := 0 ≤ n ∧ n < 256 ^ s
instance (s : Nat) (n : Int) : Decidable (Fits s n) := by unfold Fits; infer_instance
def valF (a : Int) (bs : List Int) : Int := bs.foldl (fun n c => n * 256 + c) a
def valB (bs : List Int) : Int := valF 0 bs
def Bytes (bs : List Int) : Prop := ∀ c, c ∈ bs → 0 ≤ c ∧ c < 256
theorem numB_len (s : Nat) (n : Int) : (numB s n).length = s := by
 induction s with
 | zero => rfl
 | succ s ih => simp [numB, ih]
theorem numB_bytes (s : Nat) (n : Int) : Bytes (numB s n) := by
 induction s with
 | zero => intro c hc; simp [numB] at hc
 | succ s ih =>
  intro c hc
  rcases List.mem_cons.1 hc with rfl | h
  ·exact ⟨Int.emod_nonneg _ (by omega), Int.emod_lt_of_pos _ (by omega)⟩
  ·exact ih c h
theorem numB_per (s : Nat) : ∀ (n k : Int), numB s (n + k * 256 ^ s) = numB s n := by
 induction s with
 | zero => intro n k; rfl
 | succ s ih =>
  intro n k
  have e : n + k * 256 ^ (s + 1) = n + (k * 256) * 256 ^ s := by rw [Int.pow_succ, Int.mul_comm (256 ^ s) 256, Int.mul_assoc]
  unfold numB
  rw [e, ih n (k * 256), Int.add_mul_ediv_right _ _ (by have := p256_pos s; omega), Int.add_mul_emod_self_right]
theorem valF_split (bs : List Int) : ∀ a, valF a bs = a * 256 ^ bs.length + valB bs := by
 induction bs with
 | nil => intro a; simp [valF, valB]
 | cons c bs ih =>
  intro a
  show valF (a * 256 + c) bs = a * 256 ^ (bs.length + 1) + valF (0 * 256 + c) bs
  rw [ih (a * 256 + c), ih (0 * 256 + c), Int.zero_mul, Int.zero_add, Int.add_mul, Int.pow_succ, Int.mul_assoc, Int.mul_comm 256, Int.add_assoc]
theorem valB_bd (bs : List Int) (h : Bytes bs) : 0 ≤ valB bs ∧ valB bs < 256 ^ bs.length := by
 induction bs with
 | nil => exact ⟨by decide, by decide⟩
 | cons c bs ih =>
  have h1 := ih (fun x hx => h x (by simp [hx]))
  have h2 := h c (by simp)
  have e : valB (c :: bs) = c * 256 ^ bs.length + valB bs := by
   show valF (0 * 256 + c) bs = _
   rw [valF_split, Int.zero_mul, Int.zero_add]
  have hp := p256_pos bs.length
  rw [e, List.length_cons, Int.pow_succ, Int.mul_comm (256 ^ bs.length) 256]
  have h3 : c * 256 ^ bs.length ≤ 255 * 256 ^ bs.length := Int.mul_le_mul_of_nonneg_right (by omega) (by omega)
  have h4 : 0 ≤ c * 256 ^ bs.length := Int.mul_nonneg h2.1 (by omega)
  omega
theorem num_val (bs : List Int) (h : Bytes bs) : numB bs.length (valB bs) = bs := by
 induction bs with
 | nil => rfl
 | cons c bs ih =>
  have h1 := fun x hx => h x (List.mem_cons_of_mem c hx)
  have h2 := h c (by simp)
  have hv := valB_bd bs h1
  have e : valB (c :: bs) = valB bs + c * 256 ^ bs.length := by
   show valF (0 * 256 + c) bs = _
   rw [valF_split, Int.zero_mul, Int.zero_add, Int.add_comm]
  have hp := p256_pos bs.length
  show ((valB (c :: bs)) / 256 ^ bs.length % 256) :: numB bs.length (valB (c :: bs)) = _
  rw [e, numB_per, ih h1, Int.add_mul_ediv_right _ _ (by omega), Int.ediv_eq_zero_of_lt hv.1 hv.2, Int.zero_add, Int.emod_eq_of_lt h2.1 h2.2]
theorem valB_snoc (bs : List Int) (c : Int) : valB (bs ++ [c]) = valB bs * 256 + c := by
 unfold valB valF; rw [List.foldl_append]; rfl
theorem p2_p256 (s : Nat) : (2 : Int) ^ (8 * s) = 256 ^ s := by
 rw [Int.pow_mul]; rfl
theorem i64_or8 (x y : Int) (hy : 0 ≤ y) (hy2 : y < 256) (hx : 0 ≤ x) (hx2 : x < 36028797018963968) : bits .or .i64 (x * 256) y = x * 256 + y := by
 have e63 : (2 : Int) ^ 63 = 9223372036854775808 := by decide
 have e8 : (2 : Int) ^ 8 = 256 := by decide
 exact bits_join .i64 63 (by decide) (fun n h0 h1 => by rw [i64_w]; unfold wrap64; omega) 8 (x * 256) y (by omega) (by omega) (by omega) hy (by omega) (by omega)
end Go.Proofs.Ytalimpniimgheaa.Fn
namespace Go.Proofs.Ytalimpniimgheaa.Fn
open Go.RowKit Go.Proofs.YtalimpniimgheaaW.PrintWords Go.Proofs.YtalimpniimgheaaW.PrintLast Go.Proofs.YtalimpniimgheaaW.PrintMore
set_option linter.unusedVariables false
set_option linter.unusedSimpArgs false
def cput6T : Bool × List (List Nat × List Nat) := (true, [([], []), ([], []), ([1], [1]), ([2], [2]), ([3], [3]), ([], []), ([], []), ([6], [6]), ([5, 7], [5, 7]), ([8], [8]), ([9], [9]), ([4, 10], [4, 10]), ([0, 0, 1, 2, 3, 4, 5, 6, 7, 8, 9, 10, 11], [0]), ([12, 0, 1, 2, 3, 4, 5, 6, 7, 8, 9, 10, 11], [12]), ([13, 11, 11, 0, 1, 2, 3, 4, 5, 6, 7, 8, 9, 10, 11], [11, 13])])
def cput6B : List Nat := [0, 0, 2, 6, 14, 0, 0, 64, 224, 480, 992, 2046, 4095, 8191, 16383]
theorem cput6_tab : rtab .any (opsOf Try.f122 6) = cput6T := by kernel_rfl
theorem cput6_bits : waitsOk cput6T.2 cput6B = true := by kernel_rfl
structure IsW (w : World) (base g t : Nat) (rest : List Value) (er : Int) (A : Option Addr) (c : Nat) (bs : List Int) : Prop where
 blk : w.heap[g]? = some (.cells (Value.int .i64 er :: .slice A bs.length c :: rest).toArray t (0, 0))
 lo : base ≤ g
 row : (Kd.int .u8).R 5 w base (fun k => k ≠ g) (.slice A bs.length c) bs
def wS (g : Nat) (v : Value) (k : Nat) : Prop := k = g ∨ v.ownBlock = some k
theorem IsW.at0 {e : Int} {v : Value} {rest : List Value} : (Value.int .i64 e :: v :: rest).toArray[0]? = some (.int .i64 e) := rfl
theorem IsW.at1 {e : Int} {v : Value} {rest : List Value} : (Value.int .i64 e :: v :: rest).toArray[1]? = some v := rfl
section
variable {w w1 : World} {base g t c : Nat} {rest : List Value} {er : Int} {A : Option Addr} {bs : List Int}
theorem IsW.below (h : IsW w base g t rest er A c bs) (hb : Below w.heap.size w w1) : IsW w1 base g t rest er A c bs := ⟨blk_below h.blk hb, h.lo, Kd.R_below h.row hb⟩
theorem IsW.chg {S : Nat → Prop} (h : IsW w base g t rest er A c bs) (hk : Chg S w w1) (hS : ∀ k, wS g (.slice A bs.length c) k → ¬ S k) : IsW w1 base g t rest er A c bs :=
 ⟨blk_chg h.blk hk (hS g (.inl rfl)), h.lo, Kd.R_mono (R_chg (Kd.R_tight2 rfl h.row) hk (fun k hk => hS k (.inr hk.1.symm))) (fun _ h => h.2)⟩
theorem IsW.low (h : IsW w base g t rest er A c bs) : ∀ k, wS g (.slice A bs.length c) k → base ≤ k ∧ k < w.heap.size := by
 rintro k (rfl | hk)
 ·exact ⟨h.lo, blk_lt h.blk⟩
 ·exact ⟨Kd.R_base h.row k hk, Kd.R_lt h.row k hk⟩
theorem IsW.setE (h : IsW w base g t rest er A c bs) (x : Int) : IsW (w.setCell ⟨g, 0, none⟩ (.int .i64 x)) base g t rest x A c bs := by
 refine ⟨?_, h.lo, Kd.R_far h.row (p := ⟨g, 0, none⟩) (fun k hk => hk) _⟩
 have h2 := blk_set h.blk 0 (.int .i64 x)
 simpa only [List.setIfInBounds_toArray, List.set_cons_zero] using h2
theorem IsW.setR (h : IsW w base g t rest er A c bs) (i : Nat) (x : Value) : IsW (w.setCell ⟨g, i + 2, none⟩ x) base g t (rest.set i x) er A c bs := by
 refine ⟨?_, h.lo, Kd.R_far h.row (p := ⟨g, i + 2, none⟩) (fun k hk => hk) _⟩
 have h2 := blk_set h.blk (i + 2) x
 simpa only [List.setIfInBounds_toArray, List.set_cons_succ] using h2
theorem IsW.store {A9 : Option Addr} {c9 : Nat} {zs : List Int} {v : Value} (hb : w.heap[g]? = some (.cells (Value.int .i64 er :: v :: rest).toArray t (0, 0))) (hl : base ≤ g) (hr : (Kd.int .u8).R 5 w base (fun k => k ≠ g) (.slice A9 zs.length c9) zs) : IsW (w.setCell ⟨g, 1, none⟩ (.slice A9 zs.length c9)) base g t rest er A9 c9 zs := by
 refine ⟨?_, hl, Kd.R_far hr (p := ⟨g, 1, none⟩) (fun k hk => hk) _⟩
 have h2 := blk_set hb 1 (.slice A9 zs.length c9)
 simpa only [List.setIfInBounds_toArray, List.set_cons_succ, List.set_cons_zero] using h2
end
section
variable (w : World) (g : Nat) (er : Int)
set_option maxHeartbeats 2000000 in
set_option maxRecDepth 100000 in
theorem cfine_calls (h : w.cell? ⟨g, 0, none⟩ = some (.int .i64 er)) : Calls Try.prog 121 #[.pointer (some ⟨g, 0, none⟩)] w fun e w' => e = .returned (.bool (er == 0)) ∧ w = w' := by
 have hu := Try.underlying133
 go_enter Try.func121, Try.ntmps121
 go_wp2
 go_ret
 exact ⟨rfl, rfl⟩
set_option maxHeartbeats 2000000 in
set_option maxRecDepth 100000 in
theorem cfail_calls (x : Int) (h : w.cell? ⟨g, 0, none⟩ = some (.int .i64 er)) (hf : w.frozen? ⟨g, 0, none⟩ = false) : Calls Try.prog 120 #[.pointer (some ⟨g, 0, none⟩), .int .i64 x] w fun e w' => e = .returned (.tuple #[]) ∧ (if er = 0 then w.setCell ⟨g, 0, none⟩ (.int .i64 x) else w) = w' := by
 have hu := Try.underlying133
 by_cases he : er = 0
 ·subst he
  rw [if_pos rfl]
  go_enter Try.func120, Try.ntmps120
  go_wp2
  go_end0
  exact ⟨rfl, rfl⟩
 ·rw [if_neg he]
  have b0 : (er == 0) = false := beq_eq_false_iff_ne.2 he
  have b1 : decide (er = 0) = false := decide_eq_false he
  clear he
  go_enter Try.func120, Try.ntmps120
  go_wp2
  go_end0
  exact ⟨rfl, rfl⟩
set_option maxHeartbeats 2000000 in
set_option maxRecDepth 100000 in
theorem csized_calls (sz : Int) (h : 1 ≤ sz ∧ sz ≤ 7) : Calls Try.prog 119 #[.int .i64 sz] w fun e w' => e = .returned (.bool true) ∧ w = w' := by
 have h1 := h.1
 have h2 := h.2
 have d1 : decide (sz ≥ 1) = true := decide_eq_true h1
 have d2 : decide (1 ≤ sz) = true := decide_eq_true h1
 have d3 : decide (sz ≤ 7) = true := decide_eq_true h2
 clear h
 go_enter Try.func119, Try.ntmps119
 go_wp2
 go_ret
 exact ⟨rfl, rfl⟩
end
set_option maxHeartbeats 8000000 in
set_option maxRecDepth 100000 in
theorem cput1_calls (w : World) (base g t : Nat) (rest : List Value) (er : Int) (A0 : Option Addr) (c0 : Nat) (bs0 : List Int) (sz : Int) (s : Nat) (n : Int) (hs : sz = (s : Int)) (h1 : 1 ≤ s) (h7 : s ≤ 7) (h : IsW w base g t rest er A0 c0 bs0) (hl : bs0.length ≤ 10000000) :
  Calls Try.prog 122 #[.pointer (some ⟨g, 0, none⟩), .int .i64 sz, .int .i64 n] w fun e w' => e = .returned (.bool (decide (Fits s n))) ∧ (¬ Fits s n → w = w') ∧ (Fits s n → ∃ A' c', IsW w' base g t rest er A' c' (bs0 ++ numB s n) ∧ Chg (wS g (.slice A0 bs0.length c0)) w w' ∧ ∀ k, (Value.slice A' (bs0 ++ numB s n).length c').ownBlock = some k → wS g (.slice A0 bs0.length c0) k ∨ w.heap.size ≤ k) := by
 have hu := Try.underlying135
 have z1 : 1 ≤ sz := by omega
 have z7 : sz ≤ 7 := by omega
 have e1 : (8 * sz).toNat = 8 * s := by omega
 by_cases h0 : n < 0
 ·have hn : ¬ Fits s n := fun q => by have := q.1; omega
  have d0 : decide (n < 0) = true := decide_eq_true h0
  have HN := asd hn
  rw [decide_eq_false hn]
  clear h hl h0 hn hs h1 h7
  go_enter Try.func122, Try.ntmps122
  go_wp2
  go_ret
  exact ⟨rfl, fun _ => rfl, fun q => absurd q HN.out⟩
 ·have d0 : decide (n < 0) = false := decide_eq_false h0
  by_cases hf : Fits s n
  ·have e2 : n / 2 ^ (8 * s) = 0 := by rw [p2_p256]; exact Int.ediv_eq_zero_of_lt hf.1 hf.2
   have HF := asd hf
   have HI := asd h
   have HL0 := asd hl
   have HS := asd (And.intro hs (And.intro h1 h7))
   have n0 : 0 ≤ n := hf.1
   rw [decide_eq_true hf]
   clear h hl h0 hf hs h1 h7
   go_enter Try.func122, Try.ntmps122
   go_wp2
   go_loopw [7] (fun v7 wr => ∃ (z : Int) (k : Nat) (A : Option Addr) (c : Nat) (bs : List Int), v7 = .int .i64 z ∧ Aside0 (z + 1 = (k : Int)) ∧ Aside0 (k ≤ s ∧ bs ++ numB k n = bs0 ++ numB s n) ∧ Aside0 (IsW wr base g t rest er A c bs) ∧ Aside0 (Chg (wS g (.slice A0 bs0.length c0)) w wr) ∧ Aside0 (∀ k, (Value.slice A bs.length c).ownBlock = some k → wS g (.slice A0 bs0.length c0) k ∨ w.heap.size ≤ k)) (fun v => fun _ => (intOf v + 1).toNat)
   case atStart => exact ⟨sz - 1, s, A0, c0, bs0, rfl, ⟨by have := HS.out; omega⟩, ⟨Nat.le_refl _, rfl⟩, HI, ⟨Chg.refl _ _⟩, ⟨fun k hk => .inl (.inr hk)⟩⟩
   case round =>
    clear HI e2
    obtain ⟨z, k, A, c, bs, rfl, HZ, HX, BP, HC, OW⟩ := hrel
    by_cases hz : 0 ≤ z
    ·obtain ⟨j, rfl⟩ : ∃ j : Nat, z = (j : Int) := ⟨z.toNat, by omega⟩
     obtain rfl : k = j + 1 := by have := HZ.out; omega
     have j7 : (j : Int) ≤ 6 := by have := HX.out.1; have := HS.out; omega
     have d1 : decide ((j : Int) ≥ 0) = true := decide_eq_true hz
     have d2 : decide (0 ≤ (j : Int)) = true := decide_eq_true hz
     have e3 : (8 * (j : Int)).toNat = 8 * j := by omega
     have VE : Aside0 (IntKind.u8.wrap (n / 2 ^ (8 * j)) = n / 256 ^ j % 256) := ⟨by rw [p2_p256]; simp [IntKind.wrap, IntKind.bits, IntKind.signed]⟩
     have HL : Aside0 (bs.length ≤ 10000010) := ⟨by
      have h2 := congrArg List.length HX.out.2
      rw [List.length_append, List.length_append, numB_len, numB_len] at h2
      have := HL0.out; have := HS.out; omega⟩
     have hx1 := (blk_cell BP.out.blk 1).trans IsW.at1
     have wm : wrap64 (8 * (j : Int)) = 8 * (j : Int) := by unfold wrap64; omega
     have wp0 : 0 ≤ 8 * (j : Int) := by omega
     have wp1 : 8 * (j : Int) ≤ 64 := by omega
     clear hz HZ
     go_wp2
     refine start_ (n := 15) (S := fun w' => w'.cell? ⟨g, 1, none⟩ = some (.slice A bs.length c)) (ds := [14]) #[false, false, false, false, false, false, false, false, false, false, false, false, false, false, false] (by kernel_rfl) rfl rfl hx1 (fun hHeld => ?_); refine with_tabW cput6_tab cput6_bits (fun HT_ HW_ => ?_)
     have BP2 := asd (BP.out.below (below_drew1 (Below.refl _ _)))
     have HC2 := asd HC.out.drew
     clear BP HC hx1
     generalize wr.drew = wd at BP2 HC2 hHeld ⊢
     refine pure_ (i := 0) (N := (some 23)) (v := ?_) (a' := ?_) #[true, false, false, false, false, false, false, false, false, false, false, false, false, false, false] rfl rfl (any_of HT_.out (by kernel_rfl)) (fun _ _ _ h => h) (Or.inl ⟨by rfl, ?_⟩) ?_ ?_
     rotate_left
     ·intro w'
      go_simp
      with_reducible rfl
     rotate_left
     ·simp only [Act.put, sB, i64_w, i32_w]
      rfl
     refine pure_ (i := 1) (N := (some 24)) (v := ?_) (a' := ?_) #[true, true, false, false, false, false, false, false, false, false, false, false, false, false, false] rfl rfl (any_of HT_.out (by kernel_rfl)) (fun _ _ _ h => h) (Or.inl ⟨by rfl, ?_⟩) ?_ ?_
     rotate_left
     ·intro w'
      go_simp
      with_reducible rfl
     rotate_left
     ·simp only [Act.put, sB, i64_w, i32_w]
      rfl
     refine pure_ (i := 2) (N := (some 25)) (v := ?_) (a' := ?_) #[true, true, true, false, false, false, false, false, false, false, false, false, false, false, false] rfl rfl (any_of HT_.out (by kernel_rfl)) (fun _ _ _ h => h) (Or.inl ⟨by rfl, ?_⟩) ?_ ?_
     rotate_left
     ·intro w'
      go_simp
      with_reducible rfl
     rotate_left
     ·simp only [Act.put, sB, i64_w, i32_w]
      rfl
     refine pure_ (i := 3) (N := (some 26)) (v := ?_) (a' := ?_) #[true, true, true, true, false, false, false, false, false, false, false, false, false, false, false] rfl rfl (any_of HT_.out (by kernel_rfl)) (fun _ _ _ h => h) (Or.inl ⟨by rfl, ?_⟩) ?_ ?_
     rotate_left
     ·intro w'
      go_simp
      with_reducible rfl
     rotate_left
     ·simp only [Act.put, sB, i64_w, i32_w]
      rfl
     refine take_ (i := 4) (N := (some 27)) (v := ?_) (a' := ?_) #[true, true, true, true, true, false, false, false, false, false, false, false, false, false, false] rfl rfl (take_ofW HT_.out HW_.out (by kernel_rfl)) (fun _ _ _ h => h) (Or.inl ⟨by rfl, ?_⟩) hHeld ?_ ?_
     rotate_left
     ·rintro w' s0
      go_simp
      with_reducible rfl
     rotate_left
     ·simp only [Act.put, sB, i64_w, i32_w]
      rfl
     refine pure_ (i := 5) (N := (some 28)) (v := ?_) (a' := ?_) #[true, true, true, true, true, true, false, false, false, false, false, false, false, false, false] rfl rfl (any_of HT_.out (by kernel_rfl)) (fun _ _ _ h => h) (Or.inl ⟨by rfl, ?_⟩) ?_ ?_
     rotate_left
     ·intro w'
      go_simp
      with_reducible rfl
     rotate_left
     ·simp only [Act.put, sB, i64_w, i32_w]
      rfl
     refine pure_ (i := 6) (N := (some 29)) (v := ?_) (a' := ?_) #[true, true, true, true, true, true, true, false, false, false, false, false, false, false, false] rfl rfl (any_of HT_.out (by kernel_rfl)) (fun _ _ _ h => h) (Or.inl ⟨by rfl, ?_⟩) ?_ ?_
     rotate_left
     ·intro w'
      go_simp
      with_reducible rfl
     rotate_left
     ·simp only [Act.put, sB, i64_w, i32_w]
      rfl
     refine pure_ (i := 7) (N := (some 30)) (v := ?_) (a' := ?_) #[true, true, true, true, true, true, true, true, false, false, false, false, false, false, false] rfl rfl (any_of HT_.out (by kernel_rfl)) (fun _ _ _ h => h) (Or.inl ⟨by rfl, ?_⟩) ?_ ?_
     rotate_left
     ·intro w'
      go_simp
      with_reducible rfl
     rotate_left
     ·simp only [Act.put, sB, i64_w, i32_w]
      rfl
     refine pure_ (i := 8) (N := (some 31)) (v := ?_) (a' := ?_) #[true, true, true, true, true, true, true, true, true, false, false, false, false, false, false] rfl rfl (any_of HT_.out (by kernel_rfl)) (fun _ _ _ h => h) (Or.inl ⟨by rfl, ?_⟩) ?_ ?_
     rotate_left
     ·intro w'
      go_simp
      with_reducible rfl
     rotate_left
     ·simp only [Act.put, sB, i64_w, i32_w]
      rfl
     refine pure_ (i := 9) (N := (some 32)) (v := ?_) (a' := ?_) #[true, true, true, true, true, true, true, true, true, true, false, false, false, false, false] rfl rfl (any_of HT_.out (by kernel_rfl)) (fun _ _ _ h => h) (Or.inl ⟨by rfl, ?_⟩) ?_ ?_
     rotate_left
     ·intro w'
      go_simp
      with_reducible rfl
     rotate_left
     ·simp only [Act.put, sB, i64_w, i32_w]
      rfl
     clear wm
     rw [VE.out]
     have BP3 := asd (BP2.out.below (below_alloc (Below.refl _ _) (.cells #[.int .u8 (n / 256 ^ j % 256)] 5)))
     refine one_ (i := 10) (N := (some 33)) #[true, true, true, true, true, true, true, true, true, true, true, false, false, false, false] rfl rfl (one_of HT_.out (by kernel_rfl)) (by decide) (fun K hK => ?_)
     refine value_ (w1 := ?_) (v := ?_) (by rfl) rfl ?_ ?_
     rotate_left 2
     ·go_simp
      constructor
      ·rfl
      ·rfl
     refine hK.out _ _ ((blk_cell BP3.out.blk 1).trans IsW.at1) (fun hHeld => ?_)
     clear hK K
     refine norm_ (a' := ?_) ?_ ?_
     rotate_left
     ·show Act.put _ (some 33) _ = _
      simp only [Act.put, sB, i64_w, i32_w]
      rfl
     refine one_ (i := 11) (N := (some 34)) #[true, true, true, true, true, true, true, true, true, true, true, true, false, false, false] rfl rfl (one_of HT_.out (by kernel_rfl)) (by decide) (fun K hK => ?_)
     refine Kd.R_append_step (Kd.int .u8) (w0 := wd) base (by rfl) (.tmp 27) (.tmp 33) 78 5 (.int .u8 0) 1 rfl Try.underlying78 info5 rfl (by decide) (by omega) (.slice A bs.length c) bs (n / 256 ^ j % 256) [.int .u8 (n / 256 ^ j % 256)] (fun k => k ≠ g) (fun _ => False) rfl rfl rfl (fun _ hk => hk.elim) (fun k hk => by have := blk_lt BP2.out.blk; omega) BP2.out.row (Below.refl _ _) (by have := BP2.out.lo; have := blk_lt BP2.out.blk; omega) (by have := HL.out; omega) ?_
     intro v9 w9 ho hb hgr hat
     have HO9 := asd ho
     have HC9 := asd (HC2.out.grown hgr (fun k hk => OW.out k hk))
     have BP9 := asd (blk_grown BP2.out.blk hgr (fun e => BP2.out.row.1 g e.symm rfl))
     have AT9 := asd hat
     have SZ9 := asd HC2.out.size
     clear ho hb hgr hat BP3
     obtain ⟨A9, c9, rfl⟩ := Kd.R_slice HO9.out
     have NE9 := asd (HO9.out.1)
     refine hK.out _ _ ((blk_cell BP9.out 1).trans IsW.at1) (fun hHeld => ?_)
     clear hK K
     refine norm_ (a' := ?_) ?_ ?_
     rotate_left
     ·show Act.put _ (some 34) _ = _
      simp only [Act.put, sB, i64_w, i32_w]
      rfl
     refine pure_ (i := 12) (N := (some 35)) (v := ?_) (a' := ?_) #[true, true, true, true, true, true, true, true, true, true, true, true, true, false, false] rfl rfl (any_of HT_.out (by kernel_rfl)) (fun _ _ _ h => h) (Or.inl ⟨by rfl, ?_⟩) ?_ ?_
     rotate_left
     ·intro w'
      go_simp
      with_reducible rfl
     rotate_left
     ·simp only [Act.put, sB, i64_w, i32_w]
      rfl
     refine pure_ (i := 13) (N := (some 36)) (v := ?_) (a' := ?_) #[true, true, true, true, true, true, true, true, true, true, true, true, true, true, false] rfl rfl (any_of HT_.out (by kernel_rfl)) (fun _ _ _ h => h) (Or.inl ⟨by rfl, ?_⟩) ?_ ?_
     rotate_left
     ·intro w'
      go_simp
      with_reducible rfl
     rotate_left
     ·simp only [Act.put, sB, i64_w, i32_w]
      rfl
     refine last_ (i := 14) (N := none) #[true, true, true, true, true, true, true, true, true, true, true, true, true, true, true] rfl rfl (one_of HT_.out (by kernel_rfl)) (by decide) (fun K hK => ?_)
     have hs1 := (blk_cell BP9.out 1).trans IsW.at1
     have hfs1 := blk_frozen BP9.out 1
     refine skip_ (w1 := ?_) (by rfl) rfl ?_ ?_
     rotate_left
     ·go_simp
      rfl
     refine hK.out _ _ ?_
     clear hK K
     refine done_ (done_of HT_.out (by kernel_rfl)) ?_
     clear hs1 hfs1
     have HIa := asd (IsW.store BP9.out BP2.out.lo HO9.out)
     have HCa := asd (HC9.out.set_ (p := ⟨g, 1, none⟩) (.inl (.inl rfl)) (.slice A9 (bs ++ [n / 256 ^ j % 256]).length c9))
     have OWa : Aside0 (∀ k, (Value.slice A9 (bs ++ [n / 256 ^ j % 256]).length c9).ownBlock = some k → wS g (.slice A0 bs0.length c0) k ∨ w.heap.size ≤ k) := ⟨fun k hk => by
      rcases AT9.out with h | ⟨b, h1, h2⟩
      ·exact OW.out k (h.symm.trans hk)
      ·obtain rfl : b = k := Option.some.inj (h1.symm.trans hk)
       exact .inr (Nat.le_trans SZ9.out h2)⟩
     clear BP9 HO9 HC9 BP2 HC2 OW AT9 hHeld
     have eL : (bs ++ [n / 256 ^ j % 256]).length = bs.length + 1 := by simp
     rw [eL] at HIa HCa OWa
     clear eL
     generalize w9.setCell ⟨g, 1, none⟩ (.slice A9 (bs.length + 1) c9) = wa at HIa HCa ⊢
     go_wp2
     go_roundw
     case rel => exact ⟨(j : Int) - 1, j, A9, c9, bs ++ [n / 256 ^ j % 256], by go_num, ⟨by omega⟩, ⟨by have := HX.out.1; omega, by rw [← HX.out.2, List.append_assoc]; rfl⟩, HIa, HCa, ⟨by have h := OWa.out; simpa using h⟩⟩
     case measure => simp [intOf] <;> omega
    ·have d1 : decide (z ≥ 0) = false := decide_eq_false hz
     have d2 : decide (0 ≤ z) = false := decide_eq_false hz
     have hk : k = 0 := by have := HZ.out; omega
     subst hk
     clear hz HZ
     go_wp2
     go_ret
     have hb : bs = bs0 ++ numB s n := by have := HX.out.2; rw [← this]; simp [numB]
     subst hb
     exact ⟨rfl, fun q => absurd HF.out q, fun _ => ⟨A, c, BP.out, HC.out, OW.out⟩⟩
  ·have hge : 256 ^ s ≤ n := by
    by_cases q : n < 256 ^ s
    ·exact absurd ⟨by omega, q⟩ hf
    ·omega
   have hp := p256_pos s
   have e2 : (n / 2 ^ (8 * s) == 0) = false := beq_eq_false_iff_ne.2 (by
    rw [p2_p256]
    have : 1 ≤ n / 256 ^ s := Int.le_ediv_of_mul_le hp (by omega)
    omega)
   have e3 : (n / 2 ^ (8 * s) != 0) = true := by unfold bne; rw [e2]; rfl
   have HN := asd hf
   have n0 : 0 ≤ n := by omega
   rw [decide_eq_false hf]
   clear h hl h0 hf hs h1 h7 hge hp
   go_enter Try.func122, Try.ntmps122
   go_wp2
   go_ret
   exact ⟨rfl, fun _ => rfl, fun q => absurd q HN.out⟩
end Go.Proofs.Ytalimpniimgheaa.Fn
namespace Go.Proofs.Ytalimpniimgheaa.Fn
open Go.RowKit Go.Proofs.YtalimpniimgheaaW.PrintWords Go.Proofs.YtalimpniimgheaaW.PrintLast Go.Proofs.YtalimpniimgheaaW.PrintMore
set_option linter.unusedVariables false
set_option linter.unusedSimpArgs false
def putS (s : Nat) (st : Int × List Int) (n : Int) : Int × List Int := if st.1 = 0 then (if Fits s n then (0, st.2 ++ numB s n) else (2, st.2)) else st
def putL (s : Nat) (st : Int × List Int) (xs : List Int) : Int × List Int := xs.foldl (putS s) st
theorem putL_err {s : Nat} {st : Int × List Int} (h : st.1 ≠ 0) (xs : List Int) : putL s st xs = st := by
 induction xs generalizing st with
 | nil => rfl
 | cons x xs ih =>
  show putL s (putS s st x) xs = st
  have e : putS s st x = st := by unfold putS; rw [if_neg h]
  rw [e]; exact ih h
theorem putL_snoc (s : Nat) (st : Int × List Int) (xs : List Int) (x : Int) : putL s st (xs ++ [x]) = putS s (putL s st xs) x := by unfold putL; rw [List.foldl_append]; rfl
theorem putL_app (s : Nat) (st : Int × List Int) (xs ys : List Int) : putL s st (xs ++ ys) = putL s (putL s st xs) ys := by unfold putL; rw [List.foldl_append]
theorem putL_len (s : Nat) (xs : List Int) : ∀ st : Int × List Int, (putL s st xs).2.length ≤ st.2.length + xs.length * s := by
 induction xs with
 | nil => intro st; simp [putL]
 | cons x xs ih =>
  intro st
  have h1 := ih (putS s st x)
  have h2 : (putS s st x).2.length ≤ st.2.length + s := by
   unfold putS
   split
   ·split
    ·simp [numB_len]
    ·simp
   ·simp
  have e : putL s st (x :: xs) = putL s (putS s st x) xs := rfl
  rw [e, List.length_cons, Nat.succ_mul]; omega
theorem putL_fits {s : Nat} (xs : List Int) (h : ∀ x, x ∈ xs → Fits s x) : ∀ bs : List Int, putL s (0, bs) xs = (0, bs ++ (xs.map (numB s)).flatten) := by
 induction xs with
 | nil => intro bs; simp [putL]
 | cons x xs ih =>
  intro bs
  show putL s (putS s (0, bs) x) xs = _
  have e : putS s (0, bs) x = (0, bs ++ numB s x) := by unfold putS; rw [if_pos rfl, if_pos (h x (by simp))]
  rw [e, ih (fun y hy => h y (by simp [hy]))]
  simp
theorem cell_same_block {w w1 : World} {a : Addr} (h : w1.heap[a.block]? = w.heap[a.block]?) : w1.cell? a = w.cell? a := by simp only [World.cell?, h]
theorem C_chgN {S : Nat → Prop} {k : IntKind} {w w1 : World} {A : Option Addr} {n : Nat} {xs : List Int} (h : Kd.C (Kd.int k) w A n xs) (hc : Chg S w w1) (hS : ∀ ad, A = some ad → 0 < n → ¬ S ad.block) : Kd.C (Kd.int k) w1 A n xs := by
 refine ⟨h.1, h.2.1, fun hn => ?_⟩
 obtain ⟨ad, ha, hr⟩ := h.2.2 hn
 refine ⟨ad, ha, fun j p hp => ?_⟩
 obtain ⟨cs, h1, h2, h3⟩ := hr j p hp
 refine ⟨cs, h1, h2, fun i u hu => ?_⟩
 have h4 := h3 i u hu
 have hb : (ad.add (j * (Kd.int k).sz + i)).block = ad.block := by unfold Addr.add; split <;> rfl
 have hlt := World.block_lt_of_cell? w _ h4
 have h5 := hc.block _ hlt (by rw [hb]; exact hS ad ha hn)
 rw [← h4]
 exact cell_same_block h5
set_option maxHeartbeats 8000000 in
set_option maxRecDepth 100000 in
theorem cPut_calls (w : World) (base g t : Nat) (rest : List Value) (er : Int) (A0 : Option Addr) (c0 : Nat) (bs0 : List Int) (sz : Int) (s : Nat) (A1 : Option Addr) (c1 : Nat) (xs : List Int) (hs : sz = (s : Int)) (h1 : 1 ≤ s) (h7 : s ≤ 7) (h : IsW w base g t rest er A0 c0 bs0) (hx : Kd.C (Kd.int .i64) w A1 xs.length xs) (hS : ∀ ad, A1 = some ad → 0 < xs.length → ¬ wS g (.slice A0 bs0.length c0) ad.block) (hl : bs0.length + xs.length * s ≤ 9000000) (hxl : xs.length ≤ 1000000) :
  Calls Try.prog 90 #[.pointer (some ⟨g, 0, none⟩), .int .i64 sz, .slice A1 xs.length c1] w fun e w' => e = .returned (.tuple #[]) ∧ ∃ A' c', IsW w' base g t rest (putL s (er, bs0) xs).1 A' c' (putL s (er, bs0) xs).2 ∧ Chg (wS g (.slice A0 bs0.length c0)) w w' ∧ ∀ k, (Value.slice A' (putL s (er, bs0) xs).2.length c').ownBlock = some k → wS g (.slice A0 bs0.length c0) k ∨ w.heap.size ≤ k := by
 have hu := Try.underlying135
 have hu2 := Try.underlying133
 have hu3 := Try.underlying174
 have SZ := asd (csized_calls (sz := sz) · (by omega))
 have HI := asd h
 have HX := asd (And.intro hx hS)
 have HL := asd (And.intro hl hxl)
 have HS := asd (And.intro hs (And.intro h1 h7))
 have x99 : (xs.length : Int) ≤ 1000000 := by omega
 clear hs h1 h7 h hx hS hl hxl
 go_enter Try.func90, Try.ntmps90
 go_wp2_with (first | (go_at_call 119; refine (SZ.out _).mono ?_; rintro e w1 ⟨rfl, rfl⟩))
 go_loopw [19] (fun v19 wr => ∃ (i : Nat) (A : Option Addr) (c : Nat) (st : Int × List Int), v19 = .int .i64 i ∧ Aside0 (i ≤ xs.length ∧ st = putL s (er, bs0) (xs.take i)) ∧ Aside0 (IsW wr base g t rest st.1 A c st.2) ∧ Aside0 (Chg (wS g (.slice A0 bs0.length c0)) w wr) ∧ Aside0 (∀ k, (Value.slice A st.2.length c).ownBlock = some k → wS g (.slice A0 bs0.length c0) k ∨ w.heap.size ≤ k)) (fun v => fun _ => xs.length - (intOf v).toNat)
 case atStart => exact ⟨0, A0, c0, (er, bs0), rfl, ⟨Nat.zero_le _, by rw [List.take_zero]; rfl⟩, HI, ⟨Chg.refl _ _⟩, ⟨fun k hk => .inl (.inr hk)⟩⟩
 case round =>
  obtain ⟨i, A, c, st, rfl, HY, BP, HC, OW⟩ := hrel
  have i99 : (i : Int) ≤ 1000000 := by have := HY.out.1; omega
  have hx0 := (blk_cell BP.out.blk 0).trans IsW.at0
  by_cases hlt : i < xs.length
  ·have q0 : ((i : Int) < (xs.length : Int)) = True := eq_true (by omega)
   have q1 : decide ((i : Int) < (xs.length : Int)) = true := decide_eq_true (by omega)
   have q2 : decide (i < xs.length) = true := decide_eq_true hlt
   obtain ⟨ad, rfl, cc, _, hK, hc0⟩ : ∃ ad, A1 = some ad ∧ ∃ cc, cc.length = 1 ∧ (Kd.int .i64).K wr (xs.getD i 0) cc ∧ ∀ j u, cc[j]? = some u → wr.cell? (ad.add (i * 1 + j)) = some u := by
    obtain ⟨ad, cc, e, hl, hK, hc⟩ := Kd.C_get (C_chgN HX.out.1 HC.out HX.out.2) 0 (i : Int) (by omega) (by omega)
    rw [Int.toNat_natCast] at hK hc
    exact ⟨ad, e, cc, hl, hK, hc⟩
   have ee : cc = [.int .i64 (xs.getD i 0)] := hK
   subst ee
   have y0 : wr.cell? (ad.add i) = some (.int .i64 (xs.getD i 0)) := by have h := hc0 0 _ rfl; rwa [show i * 1 + 0 = i from Nat.mul_one _] at h
   have TS : Aside0 (putL s (er, bs0) (xs.take (i + 1)) = putS s st (xs.getD i 0)) := ⟨by
    rw [List.take_succ_eq_append_getElem hlt, putL_snoc, ← HY.out.2]
    simp [List.getD, hlt]⟩
   generalize xs.getD i 0 = n at y0 TS
   obtain ⟨er1, bs1⟩ := st
   have LB : Aside0 (bs1.length ≤ 9000000) := ⟨by
    have h2 := putL_len s (xs.take i) (er, bs0)
    rw [← HY.out.2, List.length_take] at h2
    have h3 : min i xs.length * s ≤ xs.length * s := Nat.mul_le_mul_right _ (Nat.min_le_right _ _)
    have h4 := HL.out.1
    simp only at h2
    omega⟩
   have HLT := asd hlt
   clear hc0 hK hlt
   simp only at hx0
   by_cases he : er1 = 0
   ·subst he
    by_cases hf : Fits s n
    ·have e2 : putS s (0, bs1) n = (0, bs1 ++ numB s n) := by unfold putS; rw [if_pos rfl, if_pos hf]
     rw [e2] at TS
     have HF := asd hf
     clear e2 hf
     go_wp2_with (first
      | (go_at_call 121; refine (cfine_calls _ g 0 hx0).mono ?_; rintro e w1 ⟨rfl, rfl⟩)
      | (go_at_call 122; refine (cput1_calls _ base g t rest 0 A c bs1 sz s n HS.out.1 HS.out.2.1 HS.out.2.2 BP.out (by have := LB.out; omega)).mono ?_; rintro e w2 ⟨rfl, _, hy⟩; rw [decide_eq_true HF.out]; obtain ⟨A2, c2, hw2, hc2, ho2⟩ := hy HF.out; have BP2 := asd hw2; have HC2 := asd hc2; have OW2 := asd ho2; clear hw2 hc2 ho2 hy hx0))
     go_roundw
     case rel => exact ⟨i + 1, A2, c2, (0, bs1 ++ numB s n), by go_num, ⟨HLT.out, TS.out.symm⟩, BP2, ⟨HC.out.then_ HC2.out (fun k hk => hk.elim (fun h => .inl (.inl h)) (fun h => OW.out k h))⟩, ⟨fun k hk => by
      rcases OW2.out k hk with (h | h) | h
      ·exact .inl (.inl h)
      ·exact OW.out k h
      ·exact .inr (Nat.le_trans HC.out.size h)⟩⟩
     case measure => have := HLT.out; simp [intOf]; omega
    ·have e2 : putS s (0, bs1) n = (2, bs1) := by unfold putS; rw [if_pos rfl, if_neg hf]
     rw [e2] at TS
     have HF := asd hf
     have hfz := blk_frozen BP.out.blk 0
     clear e2 hf
     go_wp2_with (first
      | (go_at_call 121; refine (cfine_calls _ g 0 hx0).mono ?_; rintro e w1 ⟨rfl, rfl⟩)
      | (go_at_call 122; refine (cput1_calls _ base g t rest 0 A c bs1 sz s n HS.out.1 HS.out.2.1 HS.out.2.2 BP.out (by have := LB.out; omega)).mono ?_; rintro e w2 ⟨rfl, hy, _⟩; rw [decide_eq_false HF.out]; obtain rfl := hy HF.out; clear hy)
      | (go_at_call 120; refine (cfail_calls _ g 0 2 hx0 hfz).mono ?_; rintro e w3 ⟨rfl, hw3⟩; rw [if_pos rfl] at hw3; subst hw3))
     clear hx0 hfz
     go_roundw
     case rel => exact ⟨i + 1, A, c, (2, bs1), by go_num, ⟨HLT.out, TS.out.symm⟩, ⟨BP.out.setE 2⟩, ⟨HC.out.set_ (p := ⟨g, 0, none⟩) (.inl (.inl rfl)) _⟩, OW⟩
     case measure => have := HLT.out; simp [intOf]; omega
   ·have b0 : (er1 == 0) = false := beq_eq_false_iff_ne.2 he
    have EE : Aside0 (putL s (er, bs0) xs = (er1, bs1)) := ⟨by
     have h2 := putL_app s (er, bs0) (xs.take i) (xs.drop i)
     rw [List.take_append_drop, ← HY.out.2] at h2
     rw [h2]; exact putL_err he _⟩
    have FN := asd (cfine_calls wr g er1 hx0)
    rw [b0] at FN
    clear he b0
    go_wp2_with (first | (go_at_call 121; refine FN.out.mono ?_; rintro e w1 ⟨rfl, rfl⟩))
    refine bodyPost_ret (results_none rfl _ _ _) rfl ?_
    rw [EE.out]
    exact ⟨rfl, A, c, BP.out, HC.out, OW.out⟩
  ·have q1 : decide ((i : Int) < (xs.length : Int)) = false := decide_eq_false (by omega)
   have q2 : decide (i < xs.length) = false := decide_eq_false hlt
   have EE : Aside0 (putL s (er, bs0) xs = st) := ⟨by rw [HY.out.2, List.take_of_length_le (by omega)]⟩
   clear hlt hx0
   go_wp2
   go_end0
   rw [EE.out]
   exact ⟨rfl, A, c, BP.out, HC.out, OW.out⟩
set_option maxHeartbeats 8000000 in
set_option maxRecDepth 100000 in
theorem cclone_calls (A0 : Option Addr) (c0 : Nat) (l0 : List Int) (w : World) (hr0 : Kd.C (Kd.int .u8) w A0 l0.length l0) (hl : l0.length < 140737488355328) :
  Calls Try.prog 123 #[.slice A0 l0.length c0] w fun e w' => ∃ v0_ : Value, e = .returned (v0_) ∧ Kd.R (Kd.int .u8) 5 w' w.heap.size (fun _ => True) v0_ l0 ∧ Below w.heap.size w w' := by
 have HR0 := asd hr0
 have HC1 := asd hl
 clear hr0 hl
 have hq := fun (w : World) (a : Option Addr) n c => Lib.run_eql_slice_nil (P := Try.prog) w 78 5 a n c 0 0 Try.underlying78
 cases A0 with
 | none =>
  have e0 : l0 = [] := by
   rcases Nat.eq_zero_or_pos l0.length with h0 | h0
   ·exact List.eq_nil_of_length_eq_zero h0
   ·obtain ⟨ad, h, _⟩ := HR0.out.2.2 h0; cases h
  subst e0
  go_enter Try.func123, Try.ntmps123
  go_wp2
  go_ret
  exact ⟨_, rfl, Kd.R_nil _ _ _ _ _, Below.refl _ _⟩
 | some ad =>
  go_enter Try.func123, Try.ntmps123
  go_wp2_with (first | ((with_reducible refine gate_dst (N := 5) rfl ?_); refine Kd.R_lit (Kd.int .u8) _ 5 ?hg (N := 5) ?hd (xs := ([] : List Int)) (inner := []) (ok := fun _ => True) (okp := fun _ => True) ?hr ?hp (fun _ hk => hk) trivial (Below.refl _ _) (Nat.le_refl _) (by simp) ?_; (case hd => rfl); (case hg => rfl); (case hr => first | (go_simp; done) | (go_simp; rfl)); (case hp => exact (Reps.none _ _)); intro v1 w1 ho hb hg hat; have HO := asd ho; have HB := asd hb; clear ho hb hg hat) | ((with_reducible refine gate_builtin (b := .append) (xs := #[.tmp 5, .tmp 6]) rfl ?_); at_builtin; refine Kd.R_append_rows (Kd.int .u8) (w0 := w) w.heap.size rfl (.tmp 5) (.tmp 6) 78 5 (.int .u8 0) 1 rfl Try.underlying78 info5 rfl (by decide) (by omega) v1 [] l0 _ _ _ (fun _ => True) (fun _ => False) rfl rfl ?aO ?aR (fun _ _ h => h) (fun _ h => h.elim) ?aF ?aB ?aS ?aL ?_; (case aR => exact Kd.C_below HR0.out HB.out); (case aB => exact HB.out); (case aF => exact (fun _ _ => trivial)); (case aO => exact HO.out); (case aS => exact HB.out.size); (case aL => have := HC1.out; simp only [List.length_nil]; omega); intro v2 w2 ho2 hb2 hg2 hat2; have HO2 := asd ho2; have HB2 := asd hb2; clear ho2 hb2 hg2 hat2))
  go_ret
  exact ⟨_, rfl, HO2.out, HB2.out⟩
set_option maxHeartbeats 2000000 in
set_option maxRecDepth 100000 in
theorem cBytes_calls (w : World) (base g t : Nat) (rest : List Value) (er : Int) (A0 : Option Addr) (c0 : Nat) (bs : List Int) (h : IsW w base g t rest er A0 c0 bs) (hl : bs.length ≤ 10000000) : Calls Try.prog 92 #[.pointer (some ⟨g, 0, none⟩)] w fun e w' => ∃ v, e = .returned v ∧ (Kd.int .u8).R 5 w' w.heap.size (fun _ => True) v bs ∧ Below w.heap.size w w' := by
 have hu := Try.underlying135
 have hu2 := Try.underlying174
 have hx1 := (blk_cell h.blk 1).trans IsW.at1
 have CL := asd (cclone_calls A0 c0 bs w (C_ofR h.row) (by omega))
 clear h hl
 go_enter Try.func92, Try.ntmps92
 go_wp2_with (first | (go_at_call 123; refine CL.out.mono ?_; rintro e w1 ⟨v, rfl, hr, hb⟩; have HR := asd hr; have HB := asd hb; clear hr hb))
 go_ret
 exact ⟨_, rfl, HR.out, HB.out⟩
end Go.Proofs.Ytalimpniimgheaa.Fn
namespace Go.Proofs.Ytalimpniimgheaa.Fn
open Go.RowKit Go.Proofs.YtalimpniimgheaaW.PrintWords Go.Proofs.YtalimpniimgheaaW.PrintLast Go.Proofs.YtalimpniimgheaaW.PrintMore
set_option linter.unusedVariables false
set_option linter.unusedSimpArgs false
structure IsRd (w : World) (g : Nat) (er : Int) (A : Option Addr) (c : Nat) (bs : List Int) : Prop where
 blk : w.heap[g]? = some (.cells #[.int .i64 er, .slice A bs.length c, .bool true] 183 (0, 0))
 row : Kd.C (Kd.int .u8) w A bs.length bs
 le : bs.length ≤ c
 ne : ∀ ad, A = some ad → ad.block ≠ g
 by_ : Bytes bs
def leftV (er : Int) (n : Nat) : Int := if er = 0 then (n : Int) else 0
def RdAfter (w w' : World) (g : Nat) (A0 : Option Addr) (er : Int) (bs : List Int) : Prop := ∃ A' c', IsRd w' g er A' c' bs ∧ Chg (fun k => k = g) w w' ∧ ∀ ad, A' = some ad → ∃ ad0, A0 = some ad0 ∧ ad.block = ad0.block
def getS (s : Nat) (st : Int × List Int) : Int × (Int × List Int) := if st.1 = 0 then (if st.2.length < s then (0, (11, st.2)) else (valB (st.2.take s), (0, st.2.drop s))) else (0, st)
theorem getS_err {s : Nat} {st : Int × List Int} (h : st.1 ≠ 0) : getS s st = (0, st) := by unfold getS; rw [if_neg h]
theorem getS_short {s : Nat} {bs : List Int} (h : bs.length < s) : getS s (0, bs) = (0, (11, bs)) := by unfold getS; rw [if_pos rfl, if_pos h]
theorem getS_ok {s : Nat} {bs : List Int} (h : s ≤ bs.length) : getS s (0, bs) = (valB (bs.take s), (0, bs.drop s)) := by unfold getS; rw [if_pos rfl, if_neg (by simp only; omega)]
theorem Bytes.take {bs : List Int} (h : Bytes bs) (n : Nat) : Bytes (bs.take n) := fun c hc => h c (List.mem_of_mem_take hc)
theorem Bytes.drop {bs : List Int} (h : Bytes bs) (n : Nat) : Bytes (bs.drop n) := fun c hc => h c (List.mem_of_mem_drop hc)
theorem getS_bd (s : Nat) (hs : s ≤ 7) (st : Int × List Int) (h : Bytes st.2) : 0 ≤ (getS s st).1 ∧ (getS s st).1 < 256 ^ s ∧ Bytes (getS s st).2.2 ∧ (getS s st).2.2.length ≤ st.2.length := by
 have hp := p256_pos s
 unfold getS
 split
 ·split
  ·exact ⟨by simp, by simpa using hp, h, Nat.le_refl _⟩
  ·rename_i h2
   have h1 := valB_bd (st.2.take s) (h.take s)
   rw [List.length_take, Nat.min_eq_left (by omega)] at h1
   exact ⟨h1.1, h1.2, h.drop s, by simp⟩
 ·exact ⟨by simp, by simpa using hp, h, Nat.le_refl _⟩
section
variable {w w1 : World} {g c : Nat} {er : Int} {A : Option Addr} {bs : List Int}
theorem IsRd.below (h : IsRd w g er A c bs) (hb : Below w.heap.size w w1) : IsRd w1 g er A c bs := ⟨blk_below h.blk hb, Kd.C_below h.row hb, h.le, h.ne, h.by_⟩
theorem IsRd.chg {S : Nat → Prop} (h : IsRd w g er A c bs) (hk : Chg S w w1) (hg : ¬ S g) (hS : ∀ ad, A = some ad → ¬ S ad.block) : IsRd w1 g er A c bs := ⟨blk_chg h.blk hk hg, C_chgN h.row hk (fun ad ha _ => hS ad ha), h.le, h.ne, h.by_⟩
theorem IsRd.setE (h : IsRd w g er A c bs) (x : Int) : IsRd (w.setCell ⟨g, 0, none⟩ (.int .i64 x)) g x A c bs := by
 refine ⟨?_, C_chgN h.row ((Chg.refl (fun k => k = g) w).set_ (p := ⟨g, 0, none⟩) (.inl rfl) _) (fun ad ha _ => h.ne ad ha), h.le, h.ne, h.by_⟩
 have h2 := blk_set h.blk 0 (.int .i64 x)
 simpa only [List.setIfInBounds_toArray, List.set_cons_zero] using h2
theorem IsRd.move (h : IsRd w g er A c bs) (s : Nat) (hs : s ≤ bs.length) : IsRd (w.setCell ⟨g, 1, none⟩ (.slice (if c = s then A else A.map (·.add (s * 1))) (bs.length - s) (c - s))) g er (if c = s then A else A.map (·.add (s * 1))) (c - s) (bs.drop s) := by
 have hl : (bs.drop s).length = bs.length - s := List.length_drop
 have hd := Kd.C_drop h.row (m := s) hs h.le
 have hne : ∀ ad, (if c = s then A else A.map (·.add (s * 1))) = some ad → ad.block ≠ g := by
  intro ad ha
  split at ha
  ·exact h.ne ad ha
  ·cases hA : A with
   | none => rw [hA] at ha; cases ha
   | some a =>
    rw [hA] at ha
    have ha2 := Option.some.inj ha
    rw [← ha2]
    have : (a.add (s * 1)).block = a.block := by unfold Addr.add; split <;> rfl
    rw [this]
    exact h.ne a hA
 refine ⟨?_, C_chgN hd ((Chg.refl (fun k => k = g) w).set_ (p := ⟨g, 1, none⟩) (.inl rfl) _) (fun ad ha _ => hne ad ha), by have := h.le; omega, hne, h.by_.drop s⟩
 have h2 := blk_set h.blk 1 (.slice (if c = s then A else A.map (·.add (s * 1))) (bs.length - s) (c - s))
 rw [hl]
 simpa only [List.setIfInBounds_toArray, List.set_cons_succ, List.set_cons_zero] using h2
end
section
variable (w : World) (g : Nat) (er : Int) (A0 : Option Addr) (c : Nat) (bs : List Int)
set_option maxHeartbeats 2000000 in
set_option maxRecDepth 100000 in
theorem cnone_calls (h : IsRd w g er A0 c bs) : Calls Try.prog 127 #[.pointer (some ⟨g, 0, none⟩)] w fun e w' => e = .returned (.bool false) ∧ w = w' := by
 have hu := Try.underlying183
 have hu2 := Try.underlying145
 have hx2 := (blk_cell h.blk 2).trans rfl
 clear h
 go_enter Try.func127, Try.ntmps127
 go_wp2
 go_ret
 exact ⟨rfl, rfl⟩
set_option maxHeartbeats 2000000 in
set_option maxRecDepth 100000 in
theorem cErr_calls (h : IsRd w g er A0 c bs) : Calls Try.prog 97 #[.pointer (some ⟨g, 0, none⟩)] w fun e w' => e = .returned (.int .i64 er) ∧ w = w' := by
 have hu := Try.underlying183
 have hu2 := Try.underlying133
 have hx0 := (blk_cell h.blk 0).trans rfl
 have H := asd h
 clear h
 go_enter Try.func97, Try.ntmps97
 go_wp2_with (first | (go_at_call 127; refine (cnone_calls _ g er A0 c bs H.out).mono ?_; rintro e w1 ⟨rfl, rfl⟩))
 go_ret
 exact ⟨rfl, rfl⟩
set_option maxHeartbeats 2000000 in
set_option maxRecDepth 100000 in
theorem cLeft_calls (h : IsRd w g er A0 c bs) : Calls Try.prog 99 #[.pointer (some ⟨g, 0, none⟩)] w fun e w' => e = .returned (.int .i64 (leftV er bs.length)) ∧ w = w' := by
 have hu := Try.underlying183
 have hx0 := (blk_cell h.blk 0).trans rfl
 have hx1 := (blk_cell h.blk 1).trans rfl
 have H := asd h
 have FN := asd (cfine_calls w g er hx0)
 clear h
 by_cases he : er = 0
 ·have b0 : (er == 0) = true := beq_iff_eq.2 he
  rw [b0] at FN
  rw [show leftV er bs.length = (bs.length : Int) from if_pos he]
  clear he b0 hx0
  go_enter Try.func99, Try.ntmps99
  go_wp2_with (first | (go_at_call 127; refine (cnone_calls _ g er A0 c bs H.out).mono ?_; rintro e w1 ⟨rfl, rfl⟩) | (go_at_call 121; refine FN.out.mono ?_; rintro e w1 ⟨rfl, rfl⟩))
  go_ret
  exact ⟨rfl, rfl⟩
 ·have b0 : (er == 0) = false := beq_eq_false_iff_ne.2 he
  rw [b0] at FN
  rw [show leftV er bs.length = 0 from if_neg he]
  clear he b0 hx0 hx1
  go_enter Try.func99, Try.ntmps99
  go_wp2_with (first | (go_at_call 127; refine (cnone_calls _ g er A0 c bs H.out).mono ?_; rintro e w1 ⟨rfl, rfl⟩) | (go_at_call 121; refine FN.out.mono ?_; rintro e w1 ⟨rfl, rfl⟩))
  go_ret
  exact ⟨rfl, rfl⟩
end
set_option maxHeartbeats 8000000 in
set_option maxRecDepth 100000 in
theorem cGet_calls (w : World) (g : Nat) (er : Int) (A0 : Option Addr) (c : Nat) (bs : List Int) (sz : Int) (s : Nat) (hs : sz = (s : Int)) (h1 : 1 ≤ s) (h7 : s ≤ 7) (h : IsRd w g er A0 c bs) (hl : bs.length ≤ 1000000) :
  Calls Try.prog 96 #[.pointer (some ⟨g, 0, none⟩), .int .i64 sz] w fun e w' => e = .returned (.int .i64 (getS s (er, bs)).1) ∧ RdAfter w w' g A0 (getS s (er, bs)).2.1 (getS s (er, bs)).2.2 := by
 subst hs
 have hu := Try.underlying183
 have hu2 := Try.underlying5
 have hx0 := (blk_cell h.blk 0).trans rfl
 have hx1 := (blk_cell h.blk 1).trans rfl
 have H := asd h
 have FN := asd (cfine_calls w g er hx0)
 have SZ := asd (csized_calls (sz := (s : Int)) · (by omega))
 have HL := asd hl
 have HS := asd (And.intro h1 h7)
 have z1 : 1 ≤ (s : Int) := by omega
 have z7 : (s : Int) ≤ 7 := by omega
 clear h hl
 by_cases he : er = 0
 ·subst he
  by_cases hlt : bs.length < s
  ·have d1 : decide ((bs.length : Int) < (s : Int)) = true := decide_eq_true (by omega)
   have d2 : decide (bs.length < s) = true := decide_eq_true hlt
   have hfz := blk_frozen H.out.blk 0
   rw [getS_short hlt]
   clear hlt h1 h7
   go_enter Try.func96, Try.ntmps96
   go_wp2_with (first
    | (go_at_call 127; refine (cnone_calls _ g 0 A0 c bs H.out).mono ?_; rintro e w1 ⟨rfl, rfl⟩)
    | (go_at_call 121; refine FN.out.mono ?_; rintro e w1 ⟨rfl, rfl⟩)
    | (go_at_call 119; refine (SZ.out _).mono ?_; rintro e w1 ⟨rfl, rfl⟩)
    | (go_at_call 120; refine (cfail_calls _ g 0 11 hx0 hfz).mono ?_; rintro e w3 ⟨rfl, hw3⟩; rw [if_pos rfl] at hw3; subst hw3))
   go_ret
   exact ⟨rfl, A0, c, H.out.setE 11, (Chg.refl (fun k => k = g) w).set_ (p := ⟨g, 0, none⟩) (.inl rfl) _, fun ad ha => ⟨ad, ha, rfl⟩⟩
  ·have d1 : decide ((bs.length : Int) < (s : Int)) = false := decide_eq_false (by omega)
   have d2 : decide (bs.length < s) = false := decide_eq_false hlt
   have hsl : s ≤ bs.length := by omega
   rw [getS_ok hsl]
   have HSL := asd hsl
   have hlec := H.out.le
   have p0 : (0 ≤ (s : Int)) = True := eq_true (by omega)
   have p1 : ((s : Int) ≤ (c : Int)) = True := eq_true (by omega)
   have p2 : (s ≤ c) = True := eq_true (by omega)
   have p3 : ((s : Int) ≤ (bs.length : Int)) = True := eq_true (by omega)
   have p4 : (s ≤ bs.length) = True := eq_true hsl
   obtain ⟨ib, hib, hzb⟩ := Option.map_eq_some_iff.1 info5
   have hcut : ∀ W : World, (Instr.slice 78 (.slice A0 bs.length c) (some (.int .i64 (s : Int))) none none).run Try.prog W = .ok (.slice (if c = s then A0 else A0.map (·.add (s * 1))) (bs.length - s) (c - s)) W :=
    cut_from (P := Try.prog) 78 5 .i64 Try.underlying78 hib 1 (by simp only [Prod.mk.injEq] at hzb; exact hzb.2.1) A0 bs.length c s (by omega) (by omega)
   have RW := asd H.out.row
   have BY := asd H.out.by_
   have hfz := blk_frozen H.out.blk 1
   have MV := asd (H.out.move s hsl)
   have AD : Aside0 (∀ ad, (if c = s then A0 else A0.map (·.add (s * 1))) = some ad → ∃ ad0, A0 = some ad0 ∧ ad.block = ad0.block) := ⟨by
    intro ad ha
    split at ha
    ·exact ⟨ad, ha, rfl⟩
    ·cases A0 with
     | none => cases ha
     | some a =>
      have ha2 := Option.some.inj ha
      exact ⟨a, rfl, by rw [← ha2]; unfold Addr.add; split <;> rfl⟩⟩
   generalize hsA : (if c = s then A0 else A0.map (·.add (s * 1))) = sA at hcut MV AD
   clear hlt h1 h7 hsl hlec hib hzb hsA
   go_enter Try.func96, Try.ntmps96
   go_wp2_with (first
    | (go_at_call 127; refine (cnone_calls _ g 0 A0 c bs H.out).mono ?_; rintro e w1 ⟨rfl, rfl⟩)
    | (go_at_call 121; refine FN.out.mono ?_; rintro e w1 ⟨rfl, rfl⟩)
    | (go_at_call 119; refine (SZ.out _).mono ?_; rintro e w1 ⟨rfl, rfl⟩))
   go_loop [5, 45] (fun v5 v45 => ∃ i : Nat, v45 = .int .i64 i ∧ v5 = .int .i64 (valB (bs.take i)) ∧ Aside0 (i ≤ s)) (fun _ v => 8 - (intOf v).toNat)
   case atStart => exact ⟨0, rfl, rfl, ⟨Nat.zero_le _⟩⟩
   case round =>
    obtain ⟨i, rfl, rfl, HX⟩ := hrel
    have i99 : (i : Int) ≤ 7 := by have := HX.out; have := HS.out; omega
    by_cases hi : i < s
    ·have q0 : ((i : Int) < (s : Int)) = True := eq_true (by omega)
     have q1 : decide ((i : Int) < (s : Int)) = true := decide_eq_true (by omega)
     have q2 : decide (i < s) = true := decide_eq_true hi
     have hib : i < bs.length := by have := HSL.out; omega
     obtain ⟨ad, cc, rfl, _, hK, hc0⟩ := Kd.C_get RW.out 0 (i : Int) (by omega) (by omega)
     have ee : cc = [.int .u8 (bs.getD i 0)] := by rw [Int.toNat_natCast] at hK; exact hK
     subst ee
     have y0 : w.cell? (ad.add i) = some (.int .u8 (bs.getD i 0)) := by have h := hc0 0 _ rfl; rw [Int.toNat_natCast] at h; rwa [show i * (Kd.int .u8).sz + 0 = i from Nat.mul_one _] at h
     have hbd := valB_bd (bs.take i) (BY.out.take i)
     rw [List.length_take, Nat.min_eq_left (by omega)] at hbd
     have hp6 : (256 : Int) ^ i ≤ 281474976710656 := by
      rcases (by have := HS.out; omega : i = 0 ∨ i = 1 ∨ i = 2 ∨ i = 3 ∨ i = 4 ∨ i = 5 ∨ i = 6) with rfl | rfl | rfl | rfl | rfl | rfl | rfl <;> decide
     have hby := BY.out (bs.getD i 0) (by rw [List.getD_eq_getElem?_getD, List.getElem?_eq_getElem hib]; exact List.getElem_mem _)
     have VS : Aside0 (valB (bs.take (i + 1)) = valB (bs.take i) * 256 + bs.getD i 0) := ⟨by
      rw [List.take_succ_eq_append_getElem hib, valB_snoc]; simp [List.getD, hib]⟩
     generalize valB (bs.take i) = v at hbd VS ⊢
     generalize bs.getD i 0 = b at y0 hby VS
     have v0 : 0 ≤ v := hbd.1
     have v9 : v < 281474976710656 := by omega
     have b0 : 0 ≤ b := hby.1
     have b9 : b < 256 := hby.2
     have OR := i64_or8 v b b0 b9 v0 (by omega)
     have cv : IntKind.i64.wrap b = b := by rw [i64_w]; unfold wrap64; omega
     have wv : IntKind.i64.wrap (v * 256) = v * 256 := by rw [i64_w]; unfold wrap64; omega
     have wv2 : wrap64 (v * 256) = v * 256 := by unfold wrap64; omega
     clear hbd hp6 hby hc0 hK hi hib
     go_wp2
     go_round
     case rel => exact ⟨i + 1, by go_num, by rw [VS.out], ⟨by have := q2; simp at this; omega⟩⟩
     case measure => simp [intOf]; omega
    ·have q1 : decide ((i : Int) < (s : Int)) = false := decide_eq_false (by omega)
     have q2 : decide (i < s) = false := decide_eq_false hi
     obtain rfl : i = s := by have := HX.out; omega
     clear hi
     go_wp2
     go_ret
     exact ⟨rfl, sA, c - i, MV.out, (Chg.refl (fun k => k = g) w).set_ (p := ⟨g, 1, none⟩) (.inl rfl) _, AD.out⟩
 ·have b0 : (er == 0) = false := beq_eq_false_iff_ne.2 he
  rw [b0] at FN
  rw [getS_err (show (er, bs).1 ≠ 0 from he)]
  clear he b0 hx0 hx1 h1 h7
  go_enter Try.func96, Try.ntmps96
  go_wp2_with (first
   | (go_at_call 127; refine (cnone_calls _ g er A0 c bs H.out).mono ?_; rintro e w1 ⟨rfl, rfl⟩)
   | (go_at_call 121; refine FN.out.mono ?_; rintro e w1 ⟨rfl, rfl⟩))
  go_ret
  exact ⟨rfl, A0, c, H.out, Chg.refl _ _, fun ad ha => ⟨ad, ha, rfl⟩⟩
set_option maxHeartbeats 4000000 in
set_option maxRecDepth 100000 in
theorem cRead_calls (w : World) (A0 : Option Addr) (c : Nat) (bs : List Int) (h : Kd.C (Kd.int .u8) w A0 bs.length bs) (hb : Bytes bs) (hl : bs.length ≤ 10000000) : Calls Try.prog 95 #[.slice A0 bs.length c] w fun e w' => ∃ g A' c', e = .returned (.pointer (some ⟨g, 0, none⟩)) ∧ IsRd w' g 0 A' c' bs ∧ w.heap.size ≤ g ∧ (∀ ad, A' = some ad → w.heap.size ≤ ad.block ∧ ad.block < w'.heap.size) ∧ Below w.heap.size w w' := by
 have CL := asd (cclone_calls A0 c bs w h (by omega))
 have HB := asd hb
 clear h hb hl
 go_enter Try.func95, Try.ntmps95
 go_wp2_with fail
 refine CL.out.mono ?_
 rintro e w1 ⟨v, rfl, hr, hb⟩
 obtain ⟨A', c', rfl⟩ := Kd.R_slice hr
 have HR := asd hr
 have HB1 := asd hb
 clear hr hb CL
 have XB := asd (heap_alloc_new w1 (.cells #[.int .i64 0, .slice A' bs.length c', .bool true] 183))
 have BB := asd (below_alloc (Below.refl _ w1) (.cells #[.int .i64 0, .slice A' bs.length c', .bool true] 183))
 go_wp2
 go_ret
 refine ⟨w1.heap.size, A', c', rfl, ⟨XB.out, Kd.C_below (C_ofR HR.out) BB.out, (Kd.R_reads' HR.out).2.1, fun ad ha => ?_, HB.out⟩, below_size HB1.out, fun ad ha => ?_, below_step HB1.out BB.out⟩
 ·have := Kd.R_lt HR.out ad.block (by rw [ha]; simp [Value.ownBlock]); omega
 ·have h1 := Kd.R_base HR.out ad.block (by rw [ha]; simp [Value.ownBlock])
  have h2 := Kd.R_lt HR.out ad.block (by rw [ha]; simp [Value.ownBlock])
  have h3 := blk_lt XB.out
  exact ⟨h1, by omega⟩
end Go.Proofs.Ytalimpniimgheaa.Fn
namespace Go.Proofs.Ytalimpniimgheaa.Fn
open Go.RowKit Go.Proofs.YtalimpniimgheaaW.PrintWords Go.Proofs.YtalimpniimgheaaW.PrintLast Go.Proofs.YtalimpniimgheaaW.PrintMore
set_option linter.unusedVariables false
set_option linter.unusedSimpArgs false
def OkP (x : S65) : Prop := (0 ≤ x.f1 ∧ x.f1 < 16) ∧ (0 ≤ x.f0 ∧ x.f0 < 72057594037927936) ∧ (0 ≤ x.f2 ∧ x.f2 < 72057594037927936) ∧ (0 ≤ x.f3 ∧ x.f3 < 72057594037927936)
instance (x : S65) : Decidable (OkP x) := by unfold OkP; infer_instance
def headT (last tick : Int) : Int := if tick = last then 64 else if tick = last + 1 then 128 else 0
def headP (last : Int) (x : S65) : Int := x.f1 + headT last x.f0 + (if x.f2 = 0 then 16 else 0) + (if x.f3 = 0 then 32 else 0)
def restT (last tick : Int) : List Int := if tick = last then [] else if tick = last + 1 then [] else [tick]
def restN (n : Int) : List Int := if n = 0 then [] else [n]
def restP (last : Int) (x : S65) : List Int := restT last x.f0 ++ restN x.f2 ++ restN x.f3
def entP (last : Int) (x : S65) : List Int := numB 1 (headP last x) ++ ((restP last x).map (numB 7)).flatten
def bodyP : Int → List S65 → List Int
 | _, [] => []
 | last, x :: xs => entP last x ++ bodyP x.f0 xs
def sumS (n c : Int) : Int := (31 * n + c + 7) % 65521
def sumP (bs : List Int) : Int := bs.foldl sumS 0
def allP (l : List S65) : List Int := numB 4 l.length ++ bodyP 0 l
def putP (l : List S65) : List Int × Int := if ∀ x, x ∈ l → OkP x then (if l.length ≤ 65536 then (allP l ++ numB 2 (sumP (allP l)), 0) else ([], 11)) else ([], 2)
theorem headP_bd {last : Int} {x : S65} (h : OkP x) : 0 ≤ headP last x ∧ headP last x < 256 := by
 unfold headP headT
 have := h.1
 (repeat' split) <;> omega
theorem headP_fits {last : Int} {x : S65} (h : OkP x) : Fits 1 (headP last x) := ⟨(headP_bd h).1, by have := (headP_bd (last := last) h).2; simpa using this⟩
theorem rest_fits {last : Int} {x : S65} (h : OkP x) : ∀ n, n ∈ restP last x → Fits 7 n := by
 have e : (256 : Int) ^ 7 = 72057594037927936 := by decide
 have ht : ∀ n, n ∈ restT last x.f0 → Fits 7 n := fun n hn => by
  unfold restT at hn
  split at hn
  ·simp at hn
  ·split at hn
   ·simp at hn
   ·obtain rfl : n = x.f0 := by simpa using hn
    exact ⟨h.2.1.1, by rw [e]; exact h.2.1.2⟩
 have hn0 : ∀ m n, 0 ≤ m → m < 72057594037927936 → n ∈ restN m → Fits 7 n := fun m n h0 h1 hn => by
  unfold restN at hn
  split at hn
  ·simp at hn
  ·obtain rfl : n = m := by simpa using hn
   exact ⟨h0, by rw [e]; exact h1⟩
 intro n hn
 unfold restP at hn
 rcases List.mem_append.1 hn with hn | hn
 ·rcases List.mem_append.1 hn with hn | hn
  ·exact ht n hn
  ·exact hn0 _ n h.2.2.1.1 h.2.2.1.2 hn
 ·exact hn0 _ n h.2.2.2.1 h.2.2.2.2 hn
theorem rest_len (last : Int) (x : S65) : (restP last x).length ≤ 3 := by
 unfold restP restT restN
 simp only [List.length_append]
 (repeat' split) <;> simp
theorem flat_len (xs : List Int) : ((xs.map (numB 7)).flatten).length = xs.length * 7 := by
 induction xs with
 | nil => rfl
 | cons x xs ih => rw [List.map_cons, List.flatten_cons, List.length_append, ih, numB_len, List.length_cons]; omega
theorem entP_len (last : Int) (x : S65) : (entP last x).length ≤ 22 := by
 have := rest_len last x
 unfold entP
 rw [List.length_append, numB_len, flat_len]; omega
theorem bodyP_len (l : List S65) : ∀ last, (bodyP last l).length ≤ l.length * 22 := by
 induction l with
 | nil => intro last; simp [bodyP]
 | cons x xs ih =>
  intro last
  have h1 := entP_len last x
  have h2 := ih x.f0
  show (entP last x ++ bodyP x.f0 xs).length ≤ _
  rw [List.length_append, List.length_cons]; omega
theorem allP_len (l : List S65) : (allP l).length ≤ 4 + l.length * 22 := by
 have := bodyP_len l 0
 unfold allP
 rw [List.length_append, numB_len]; omega
def lastP (last : Int) (l : List S65) : Int := l.foldl (fun _ x => x.f0) last
theorem bodyP_snoc (l : List S65) (x : S65) : ∀ last, bodyP last (l ++ [x]) = bodyP last l ++ entP (lastP last l) x := by
 induction l with
 | nil => intro last; simp [bodyP, lastP]
 | cons y l ih =>
  intro last
  show entP last y ++ bodyP y.f0 (l ++ [x]) = (entP last y ++ bodyP y.f0 l) ++ _
  rw [ih, List.append_assoc]; rfl
theorem lastP_snoc (last : Int) (l : List S65) (x : S65) : lastP last (l ++ [x]) = x.f0 := by unfold lastP; rw [List.foldl_append]; rfl
theorem lastP_bd {last : Int} {l : List S65} (h0 : 0 ≤ last) (h1 : last < 72057594037927936) (h : ∀ x, x ∈ l → OkP x) : 0 ≤ lastP last l ∧ lastP last l < 72057594037927936 := by
 induction l generalizing last with
 | nil => exact ⟨h0, h1⟩
 | cons x l ih => exact ih (h x (by simp)).2.1.1 (h x (by simp)).2.1.2 (fun y hy => h y (by simp [hy]))
theorem sumS_bd (n c : Int) : 0 ≤ sumS n c ∧ sumS n c < 65521 := ⟨Int.emod_nonneg _ (by omega), Int.emod_lt_of_pos _ (by omega)⟩
theorem sumF_bd (bs : List Int) : ∀ n, 0 ≤ n → n < 65521 → 0 ≤ bs.foldl sumS n ∧ bs.foldl sumS n < 65521 := by
 induction bs with
 | nil => intro n h0 h1; exact ⟨h0, h1⟩
 | cons c bs ih => intro n h0 h1; exact ih _ (sumS_bd n c).1 (sumS_bd n c).2
theorem sumP_bd (bs : List Int) : 0 ≤ sumP bs ∧ sumP bs < 65521 := sumF_bd bs 0 (by omega) (by omega)
theorem sumP_fits (bs : List Int) : Fits 2 (sumP bs) := by
 have h := sumP_bd bs
 have e : (256 : Int) ^ 2 = 65536 := by decide
 exact ⟨h.1, by omega⟩
structure GS where
 er : Int
 bs : List Int
 last : Int
 odd : Bool
def GS.get (s : GS) (n : Nat) : Int × GS := ((getS n (s.er, s.bs)).1, { s with er := (getS n (s.er, s.bs)).2.1, bs := (getS n (s.er, s.bs)).2.2 })
def GS.refuse (s : GS) (b : Bool) : GS := { s with odd := s.odd || (s.er == 0 && b) }
def tickG (s : GS) (hd : Int) : Int × GS :=
 if hd / 64 % 4 = 1 then (s.last, s) else if hd / 64 % 4 = 2 then (s.last + 1, s)
 else if hd / 64 % 4 = 0 then ((s.get 7).1, (s.get 7).2.refuse ((s.get 7).1 == s.last || (s.get 7).1 == s.last + 1))
 else (s.last, { s with odd := true })
def numG (s : GS) (told : Bool) : Int × GS := if told = true then ((s.get 7).1, (s.get 7).2.refuse ((s.get 7).1 == 0)) else (0, s)
def bigG (s : GS) (tick : Int) : GS := { s with odd := s.odd || decide (72057594037927936 ≤ tick) }
def entG (s : GS) : S65 × GS :=
 let h := s.get 1
 let t := tickG h.2 h.1
 let a := numG (bigG t.2 t.1) (h.1 / 16 % 2 == 0)
 let b := numG a.2 (h.1 / 32 % 2 == 0)
 (⟨t.1, h.1 % 16, a.1, b.1⟩, { b.2 with last := t.1 })
def loopG : Nat → GS → List S65 × GS
 | 0, s => ([], s)
 | n + 1, s => if s.odd = true ∨ s.er ≠ 0 then ([], s) else ((entG s).1 :: (loopG n (entG s).2).1, (loopG n (entG s).2).2)
def getP (bs : List Int) : List S65 × Int :=
 let n := getS 4 (0, bs)
 let r := loopG n.1.toNat ⟨n.2.1, n.2.2, 0, decide (65536 < n.1)⟩
 if r.2.odd = true then ([], 10) else
 let left := if r.2.er = 0 then r.2.bs.length else 0
 let m := getS 2 (r.2.er, r.2.bs)
 if m.2.1 ≠ 0 then ([], 11) else if m.1 ≠ sumP (bs.take (bs.length - left)) ∨ 0 < m.2.2.length then ([], 10) else (r.1, 0)
end Go.Proofs.Ytalimpniimgheaa.Fn
namespace Go.Proofs.Ytalimpniimgheaa.Fn
open Go.RowKit Go.Proofs.YtalimpniimgheaaW.PrintWords Go.Proofs.YtalimpniimgheaaW.PrintLast Go.Proofs.YtalimpniimgheaaW.PrintMore
set_option linter.unusedVariables false
set_option linter.unusedSimpArgs false
structure IsPR (w : World) (gr g : Nat) (er last : Int) (odd : Bool) (A : Option Addr) (c : Nat) (bs : List Int) : Prop where
 blk : w.heap[gr]? = some (.cells #[.pointer (some ⟨g, 0, none⟩), .int .i64 last, .bool odd] 148 (0, 0))
 rd : IsRd w g er A c bs
 ne : gr ≠ g
 na : ∀ ad, A = some ad → ad.block ≠ gr
def prS (gr g k : Nat) : Prop := k = g ∨ k = gr
def PRAfter (w w' : World) (gr g : Nat) (A0 : Option Addr) (s : GS) : Prop := ∃ A' c', IsPR w' gr g s.er s.last s.odd A' c' s.bs ∧ Chg (prS gr g) w w' ∧ ∀ ad, A' = some ad → ∃ ad0, A0 = some ad0 ∧ ad.block = ad0.block
section
variable {w w1 w2 : World} {gr g c : Nat} {er last : Int} {odd : Bool} {A : Option Addr} {bs : List Int}
theorem IsPR.below (h : IsPR w gr g er last odd A c bs) (hb : Below w.heap.size w w1) : IsPR w1 gr g er last odd A c bs := ⟨blk_below h.blk hb, h.rd.below hb, h.ne, h.na⟩
theorem IsPR.chg {S : Nat → Prop} (h : IsPR w gr g er last odd A c bs) (hk : Chg S w w1) (h1 : ¬ S gr) (h2 : ¬ S g) (h3 : ∀ ad, A = some ad → ¬ S ad.block) : IsPR w1 gr g er last odd A c bs := ⟨blk_chg h.blk hk h1, h.rd.chg hk h2 h3, h.ne, h.na⟩
theorem IsPR.setOdd (h : IsPR w gr g er last odd A c bs) (b : Bool) : IsPR (w.setCell ⟨gr, 2, none⟩ (.bool b)) gr g er last b A c bs := by
 refine ⟨?_, h.rd.chg ((Chg.refl (fun k => k = gr) w).set_ (p := ⟨gr, 2, none⟩) (.inl rfl) _) (fun q => h.ne q.symm) h.na, h.ne, h.na⟩
 have h2 := blk_set h.blk 2 (.bool b)
 simpa only [sB] using h2
theorem IsPR.setLast (h : IsPR w gr g er last odd A c bs) (n : Int) : IsPR (w.setCell ⟨gr, 1, none⟩ (.int .i64 n)) gr g er n odd A c bs := by
 refine ⟨?_, h.rd.chg ((Chg.refl (fun k => k = gr) w).set_ (p := ⟨gr, 1, none⟩) (.inl rfl) _) (fun q => h.ne q.symm) h.na, h.ne, h.na⟩
 have h2 := blk_set h.blk 1 (.int .i64 n)
 simpa only [sB] using h2
theorem IsPR.get {A1 : Option Addr} {c1 : Nat} {er1 : Int} {bs1 : List Int} (h : IsPR w gr g er last odd A c bs) (h1 : IsRd w1 g er1 A1 c1 bs1) (hc : Chg (fun k => k = g) w w1) (ha : ∀ ad, A1 = some ad → ∃ ad0, A = some ad0 ∧ ad.block = ad0.block) : IsPR w1 gr g er1 last odd A1 c1 bs1 :=
 ⟨blk_chg h.blk hc h.ne, h1, h.ne, fun ad h2 => by obtain ⟨ad0, h3, h4⟩ := ha ad h2; rw [h4]; exact h.na ad0 h3⟩
theorem IsPR.after (h : IsPR w gr g er last odd A c bs) : PRAfter w w gr g A ⟨er, bs, last, odd⟩ := ⟨A, c, h, Chg.refl _ _, fun ad ha => ⟨ad, ha, rfl⟩⟩
theorem PRAfter.then_ {s s2 : GS} {A0 A1 : Option Addr} {c1 : Nat} (hc : Chg (prS gr g) w w1) (ha : ∀ ad, A1 = some ad → ∃ ad0, A0 = some ad0 ∧ ad.block = ad0.block) (h2 : PRAfter w1 w2 gr g A1 s2) : PRAfter w w2 gr g A0 s2 := by
 obtain ⟨A2, c2, h3, h4, h5⟩ := h2
 exact ⟨A2, c2, h3, hc.trans h4, fun ad h6 => by
  obtain ⟨ad1, h7, h8⟩ := h5 ad h6
  obtain ⟨ad0, h9, h10⟩ := ha ad1 h7
  exact ⟨ad0, h9, h8.trans h10⟩⟩
end
set_option maxHeartbeats 2000000 in
set_option maxRecDepth 100000 in
theorem prefuse_calls (w : World) (gr g : Nat) (er last : Int) (odd : Bool) (A : Option Addr) (c : Nat) (bs : List Int) (b : Bool) (h : IsPR w gr g er last odd A c bs) :
  Calls Try.prog 142 #[.pointer (some ⟨gr, 0, none⟩), .bool b] w fun e w' => e = .returned (.tuple #[]) ∧ w.setCell ⟨gr, 2, none⟩ (.bool (odd || (er == 0 && b))) = w' := by
 have hu := Try.underlying148
 have H := asd h
 have hx0 := (blk_cell h.blk 0).trans rfl
 have hx2 := (blk_cell h.blk 2).trans rfl
 have hf2 := blk_frozen h.blk 2
 clear h
 cases odd with
 | true =>
  go_enter Try.func142, Try.ntmps142
  go_wp2
  go_end0
  exact ⟨rfl, rfl⟩
 | false =>
  by_cases he : er = 0
  ·have b0 : (er == 0) = true := beq_iff_eq.2 he
   rw [b0]
   clear he
   cases b <;>
   ·go_enter Try.func142, Try.ntmps142
    go_wp2_with (first | (go_at_call 97; refine (cErr_calls _ g er A c bs H.out.rd).mono ?_; rintro e w1 ⟨rfl, rfl⟩))
    go_end0
    exact ⟨rfl, rfl⟩
  ·have b0 : (er == 0) = false := beq_eq_false_iff_ne.2 he
   rw [b0]
   clear he
   go_enter Try.func142, Try.ntmps142
   go_wp2_with (first | (go_at_call 97; refine (cErr_calls _ g er A c bs H.out.rd).mono ?_; rintro e w1 ⟨rfl, rfl⟩))
   go_end0
   exact ⟨rfl, rfl⟩
set_option maxHeartbeats 4000000 in
set_option maxRecDepth 100000 in
theorem pnum_calls (w : World) (gr g : Nat) (er last : Int) (odd : Bool) (A : Option Addr) (c : Nat) (bs : List Int) (told : Bool) (h : IsPR w gr g er last odd A c bs) (hl : bs.length ≤ 1000000) :
  Calls Try.prog 129 #[.pointer (some ⟨gr, 0, none⟩), .bool told] w fun e w' => e = .returned (.int .i64 (numG ⟨er, bs, last, odd⟩ told).1) ∧ PRAfter w w' gr g A (numG ⟨er, bs, last, odd⟩ told).2 := by
 have hu := Try.underlying148
 have H := asd h
 have HL := asd hl
 have hx0 := (blk_cell h.blk 0).trans rfl
 clear h hl
 cases told with
 | false =>
  have e1 : numG ⟨er, bs, last, odd⟩ false = (0, ⟨er, bs, last, odd⟩) := rfl
  rw [e1]
  clear e1
  go_enter Try.func129, Try.ntmps129
  go_wp2
  go_ret
  exact ⟨rfl, H.out.after⟩
 | true =>
  have e1 : numG ⟨er, bs, last, odd⟩ true = ((getS 7 (er, bs)).1, ⟨(getS 7 (er, bs)).2.1, (getS 7 (er, bs)).2.2, last, odd || ((getS 7 (er, bs)).2.1 == 0 && (getS 7 (er, bs)).1 == 0)⟩) := rfl
  rw [e1]
  clear e1
  have GC := asd (cGet_calls w g er A c bs 7 7 rfl (by omega) (by omega) H.out.rd HL.out)
  generalize hg : getS 7 (er, bs) = r at GC ⊢
  obtain ⟨n, er1, bs1⟩ := r
  have HG := asd hg
  clear hg
  go_enter Try.func129, Try.ntmps129
  go_wp2_with fail
  refine GC.out.mono ?_
  rintro e w1 ⟨rfl, A1, c1, h1, hc1, ha1⟩
  have H1 := asd (H.out.get h1 hc1 ha1)
  have HC := asd (hc1.mono (fun k hk => (.inl hk : prS gr g k)))
  have HA := asd ha1
  clear h1 hc1 ha1 GC hx0
  go_wp2_with (first | (go_at_call 142; refine (prefuse_calls _ gr g er1 last odd A1 c1 bs1 (n == 0) H1.out).mono ?_; rintro e w2 ⟨rfl, rfl⟩))
  go_ret
  exact ⟨rfl, A1, c1, H1.out.setOdd _, HC.out.set_ (p := ⟨gr, 2, none⟩) (.inl (.inr rfl)) _, HA.out⟩
theorem and192 : (∀ n : Fin 256, bits .and .i64 (n.val : Int) 192 = (n.val : Int) / 64 * 64) ∧ (∀ n : Fin 256, (bits .and .i64 (n.val : Int) 16 == 0) = ((n.val : Int) / 16 % 2 == 0)) ∧ (∀ n : Fin 256, (bits .and .i64 (n.val : Int) 32 == 0) = ((n.val : Int) / 32 % 2 == 0)) := by decide +kernel
set_option maxHeartbeats 4000000 in
set_option maxRecDepth 100000 in
theorem ptick_calls (w : World) (gr g : Nat) (er last : Int) (odd : Bool) (A : Option Addr) (c : Nat) (bs : List Int) (hd : Int) (h : IsPR w gr g er last odd A c bs) (hl : bs.length ≤ 1000000) (l0 : 0 ≤ last) (l9 : last < 72057594037927936) (d0 : 0 ≤ hd) (d9 : hd < 256) :
  Calls Try.prog 128 #[.pointer (some ⟨gr, 0, none⟩), .int .i64 hd] w fun e w' => e = .returned (.int .i64 (tickG ⟨er, bs, last, odd⟩ hd).1) ∧ PRAfter w w' gr g A (tickG ⟨er, bs, last, odd⟩ hd).2 := by
 have hu := Try.underlying148
 have H := asd h
 have HL := asd hl
 have hx0 := (blk_cell h.blk 0).trans rfl
 have hx1 := (blk_cell h.blk 1).trans rfl
 have hx2 := (blk_cell h.blk 2).trans rfl
 have hf2 := blk_frozen h.blk 2
 have ha := and192.1 ⟨hd.toNat, by omega⟩
 simp only at ha
 rw [Int.toNat_of_nonneg d0] at ha
 clear h hl
 rcases (by omega : hd / 64 = 0 ∨ hd / 64 = 1 ∨ hd / 64 = 2 ∨ hd / 64 = 3) with q | q | q | q
 ·have e1 : tickG ⟨er, bs, last, odd⟩ hd = ((getS 7 (er, bs)).1, ⟨(getS 7 (er, bs)).2.1, (getS 7 (er, bs)).2.2, last, odd || ((getS 7 (er, bs)).2.1 == 0 && ((getS 7 (er, bs)).1 == last || (getS 7 (er, bs)).1 == last + 1))⟩) := by unfold tickG; rw [q]; rfl
  rw [e1]
  rw [q] at ha
  clear e1 q
  have GC := asd (cGet_calls w g er A c bs 7 7 rfl (by omega) (by omega) H.out.rd HL.out)
  generalize hg : getS 7 (er, bs) = r at GC ⊢
  obtain ⟨n, er1, bs1⟩ := r
  have HG := asd hg
  clear hg hf2
  by_cases n0 : n = last
  ·have b0 : (n == last) = true := beq_iff_eq.2 n0
   rw [b0, Bool.true_or, Bool.and_true]
   clear n0
   go_enter Try.func128, Try.ntmps128
   go_wp2_with fail
   refine GC.out.mono ?_
   rintro e w1 ⟨rfl, A1, c1, h1, hc1, ha1⟩
   have H1 := asd (H.out.get h1 hc1 ha1)
   have HC := asd (hc1.mono (fun k hk => (.inl hk : prS gr g k)))
   have HA := asd ha1
   clear h1 hc1 ha1 GC hx0 hx1 hx2
   have hx1 := (blk_cell H1.out.blk 1).trans rfl
   go_wp2_with (first | (go_at_call 142; refine (prefuse_calls _ gr g er1 last odd A1 c1 bs1 true H1.out).mono ?_; rintro e w2 ⟨rfl, rfl⟩))
   go_ret
   exact ⟨rfl, A1, c1, H1.out.setOdd _, HC.out.set_ (p := ⟨gr, 2, none⟩) (.inl (.inr rfl)) _, HA.out⟩
  ·have b0 : (n == last) = false := beq_eq_false_iff_ne.2 n0
   rw [b0, Bool.false_or]
   clear n0
   go_enter Try.func128, Try.ntmps128
   go_wp2_with fail
   refine GC.out.mono ?_
   rintro e w1 ⟨rfl, A1, c1, h1, hc1, ha1⟩
   have H1 := asd (H.out.get h1 hc1 ha1)
   have HC := asd (hc1.mono (fun k hk => (.inl hk : prS gr g k)))
   have HA := asd ha1
   clear h1 hc1 ha1 GC hx0 hx1 hx2
   have hx1 := (blk_cell H1.out.blk 1).trans rfl
   go_wp2_with (first | (go_at_call 142; refine (prefuse_calls _ gr g er1 last odd A1 c1 bs1 (n == last + 1) H1.out).mono ?_; rintro e w2 ⟨rfl, rfl⟩))
   go_ret
   exact ⟨rfl, A1, c1, H1.out.setOdd _, HC.out.set_ (p := ⟨gr, 2, none⟩) (.inl (.inr rfl)) _, HA.out⟩
 ·have e1 : tickG ⟨er, bs, last, odd⟩ hd = (last, ⟨er, bs, last, odd⟩) := by unfold tickG; rw [q]; rfl
  rw [e1]
  rw [q] at ha
  clear e1 q
  go_enter Try.func128, Try.ntmps128
  go_wp2
  go_ret
  exact ⟨rfl, H.out.after⟩
 ·have e1 : tickG ⟨er, bs, last, odd⟩ hd = (last + 1, ⟨er, bs, last, odd⟩) := by unfold tickG; rw [q]; rfl
  rw [e1]
  rw [q] at ha
  clear e1 q
  go_enter Try.func128, Try.ntmps128
  go_wp2
  go_ret
  exact ⟨rfl, H.out.after⟩
 ·have e1 : tickG ⟨er, bs, last, odd⟩ hd = (last, ⟨er, bs, last, true⟩) := by unfold tickG; rw [q]; rfl
  rw [e1]
  rw [q] at ha
  clear e1 q
  have hx1b : (w.setCell ⟨gr, 2, none⟩ (.bool true)).cell? ⟨gr, 1, none⟩ = some (.int .i64 last) := (blk_cell (H.out.setOdd true).blk 1).trans rfl
  go_enter Try.func128, Try.ntmps128
  go_wp2
  go_ret
  exact ⟨rfl, A, c, H.out.setOdd _, (Chg.refl (prS gr g) w).set_ (p := ⟨gr, 2, none⟩) (.inl (.inr rfl)) _, fun ad ha => ⟨ad, ha, rfl⟩⟩
end Go.Proofs.Ytalimpniimgheaa.Fn
namespace Go.Proofs.Ytalimpniimgheaa.Fn
open Go.RowKit Go.Proofs.YtalimpniimgheaaW.PrintWords Go.Proofs.YtalimpniimgheaaW.PrintLast Go.Proofs.YtalimpniimgheaaW.PrintMore
set_option linter.unusedVariables false
set_option linter.unusedSimpArgs false
theorem results_row1 {P : Program} {fn : Func} {p : Tmp} {ty : TypeId} (h : fn.results = #[.cell p ty]) (tmps : Array Value) (w : World) (g : Nat) (t : TypeId) (cs : Array Value) (fr : Nat × Nat) (d : TypeDesc)
  (hp : tmps.getD p undef = .pointer (some ⟨g, 0, none⟩)) (hg : w.heap[g]? = some (.cells cs t fr))
  (hu : P.underlying ty = some d) (hd : (match d with | .struct _ | .array _ _ => true | _ => false) = true) (hi : (P.info? ty).map (·.size) = some cs.size) :
  (results fn tmps).run P w = .ok (.agg cs) w := by
 have hp' : tmps[p]?.getD undef = .pointer (some ⟨g, 0, none⟩) := by simpa using hp
 simp [results, h, hp', asAddr, run_loadVar_row w g t ty cs fr d hg hu hd hi]
def GS.ok (s : GS) (n : Nat) : Prop := Bytes s.bs ∧ s.bs.length ≤ n ∧ 0 ≤ s.last ∧ s.last < 72057594037927936
theorem get7_bd {s : GS} {n : Nat} (h : s.ok n) : 0 ≤ (s.get 7).1 ∧ (s.get 7).1 < 72057594037927936 ∧ ((s.get 7).2).ok n := by
 have h1 := getS_bd 7 (by omega) (s.er, s.bs) h.1
 have e : (256 : Int) ^ 7 = 72057594037927936 := by decide
 exact ⟨h1.1, by rw [← e]; exact h1.2.1, h1.2.2.1, Nat.le_trans h1.2.2.2 h.2.1, h.2.2⟩
theorem tickG_bd {s : GS} {n : Nat} (h : s.ok n) (hd : Int) : 0 ≤ (tickG s hd).1 ∧ (tickG s hd).1 ≤ 72057594037927936 ∧ ((tickG s hd).2).ok n := by
 unfold tickG
 split
 ·exact ⟨h.2.2.1, by have := h.2.2.2; omega, h⟩
 ·split
  ·exact ⟨by have := h.2.2.1; omega, by have := h.2.2.2; omega, h⟩
  ·split
   ·have h1 := get7_bd h
    exact ⟨h1.1, by have := h1.2.1; omega, h1.2.2⟩
   ·exact ⟨h.2.2.1, by have := h.2.2.2; omega, h⟩
theorem numG_bd {s : GS} {n : Nat} (h : s.ok n) (told : Bool) : 0 ≤ (numG s told).1 ∧ (numG s told).1 < 72057594037927936 ∧ ((numG s told).2).ok n := by
 unfold numG
 split
 ·exact get7_bd h
 ·exact ⟨by simp, by simp, h⟩
theorem entG_odd (s : GS) : (entG s).2.odd = false → (entG s).1.f0 < 72057594037927936 := by
 intro h
 have h1 : ∀ (s : GS) (b : Bool), (numG s b).2.odd = false → s.odd = false := by
  intro s b h
  unfold numG at h
  split at h
  ·unfold GS.refuse GS.get at h
   simp only [Bool.or_eq_false_iff] at h
   exact h.1
  ·exact h
 have h2 := h1 _ _ (h1 _ _ h)
 unfold bigG at h2
 simp only [Bool.or_eq_false_iff, decide_eq_false_iff_not] at h2
 have h3 := h2.2
 show (tickG (s.get 1).2 (s.get 1).1).1 < _
 omega
set_option maxHeartbeats 8000000 in
set_option maxRecDepth 100000 in
theorem pent_calls (w : World) (gr g : Nat) (er last : Int) (odd : Bool) (A : Option Addr) (c : Nat) (bs : List Int) (h : IsPR w gr g er last odd A c bs) (hl : bs.length ≤ 1000000) (l0 : 0 ≤ last) (l9 : last < 72057594037927936) (hlA : ∀ ad, A = some ad → ad.block < w.heap.size) :
  Calls Try.prog 98 #[.pointer (some ⟨gr, 0, none⟩)] w fun e w' => e = .returned (.agg #[.int .i64 (entG ⟨er, bs, last, odd⟩).1.f0, .int .i64 (entG ⟨er, bs, last, odd⟩).1.f1, .int .i64 (entG ⟨er, bs, last, odd⟩).1.f2, .int .i64 (entG ⟨er, bs, last, odd⟩).1.f3]) ∧ PRAfter w w' gr g A (entG ⟨er, bs, last, odd⟩).2 := by
 have hu := Try.underlying148
 have hu2 := Try.underlying65
 have SO : Aside0 (GS.ok ⟨er, bs, last, odd⟩ 1000000) := ⟨⟨h.rd.by_, hl, l0, l9⟩⟩
 have BL : Aside0 (gr < w.heap.size ∧ g < w.heap.size) := ⟨⟨blk_lt h.blk, blk_lt h.rd.blk⟩⟩
 -- what is read, piece by piece
 generalize hg : getS 1 (er, bs) = r1
 obtain ⟨n1, er1, bs1⟩ := r1
 have S1 : Aside0 (GS.ok ⟨er1, bs1, last, odd⟩ 1000000 ∧ 0 ≤ n1 ∧ n1 < 256) := ⟨by
  have h1 := getS_bd 1 (by omega) (er, bs) h.rd.by_
  rw [hg] at h1
  exact ⟨⟨h1.2.2.1, Nat.le_trans h1.2.2.2 hl, l0, l9⟩, h1.1, by simpa using h1.2.1⟩⟩
 generalize ht : tickG ⟨er1, bs1, last, odd⟩ n1 = r2
 obtain ⟨tk, er2, bs2, last2, odd2⟩ := r2
 have S2 : Aside0 (GS.ok ⟨er2, bs2, last2, odd2⟩ 1000000 ∧ 0 ≤ tk ∧ tk ≤ 72057594037927936) := ⟨by
  have h1 := tickG_bd S1.out.1 n1
  rw [ht] at h1
  exact ⟨h1.2.2, h1.1, h1.2.1⟩⟩
 generalize hna : numG ⟨er2, bs2, last2, odd2 || decide (72057594037927936 ≤ tk)⟩ (n1 / 16 % 2 == 0) = r3
 obtain ⟨na, er3, bs3, last3, odd3⟩ := r3
 have S3 : Aside0 (GS.ok ⟨er3, bs3, last3, odd3⟩ 1000000 ∧ 0 ≤ na ∧ na < 72057594037927936) := ⟨by
  have h1 := numG_bd (s := ⟨er2, bs2, last2, odd2 || decide (72057594037927936 ≤ tk)⟩) S2.out.1 (n1 / 16 % 2 == 0)
  rw [hna] at h1
  exact ⟨h1.2.2, h1.1, h1.2.1⟩⟩
 generalize hnb : numG ⟨er3, bs3, last3, odd3⟩ (n1 / 32 % 2 == 0) = r4
 obtain ⟨nb, er4, bs4, last4, odd4⟩ := r4
 have EE : entG ⟨er, bs, last, odd⟩ = (⟨tk, n1 % 16, na, nb⟩, ⟨er4, bs4, tk, odd4⟩) := by
  unfold entG GS.get bigG
  simp only [hg, ht, hna, hnb]
 rw [EE]
 have GC := asd (fun w1 (h1 : IsPR w1 gr g er last odd A c bs) => cGet_calls w1 g er A c bs 1 1 rfl (by omega) (by omega) h1.rd hl)
 rw [hg] at GC
 have TC := asd (fun w1 A1 c1 (h1 : IsPR w1 gr g er1 last odd A1 c1 bs1) => ptick_calls w1 gr g er1 last odd A1 c1 bs1 n1 h1 S1.out.1.2.1 l0 l9 S1.out.2.1 S1.out.2.2)
 rw [ht] at TC
 have AC := asd (fun w1 A1 c1 (h1 : IsPR w1 gr g er2 last2 (odd2 || decide (72057594037927936 ≤ tk)) A1 c1 bs2) => pnum_calls w1 gr g er2 last2 (odd2 || decide (72057594037927936 ≤ tk)) A1 c1 bs2 (n1 / 16 % 2 == 0) h1 S2.out.1.2.1)
 rw [hna] at AC
 have BC := asd (fun w1 A1 c1 (h1 : IsPR w1 gr g er3 last3 odd3 A1 c1 bs3) => pnum_calls w1 gr g er3 last3 odd3 A1 c1 bs3 (n1 / 32 % 2 == 0) h1 S3.out.1.2.1)
 rw [hnb] at BC
 have n0 := S1.out.2.1
 have n9 := S1.out.2.2
 have t0 := S2.out.2.1
 have t9 := S2.out.2.2
 have a16 := and192.2.1 ⟨n1.toNat, by omega⟩
 have a32 := and192.2.2 ⟨n1.toNat, by omega⟩
 simp only [Int.toNat_of_nonneg n0] at a16 a32
 have HA := asd (h.below (below_alloc (Below.refl _ _) (.cells #[.int .i64 0, .int .i64 0, .int .i64 0, .int .i64 0] 65)))
 have HCA := asd ((Chg.refl (prS gr g) w).alloc (.cells #[.int .i64 0, .int .i64 0, .int .i64 0, .int .i64 0] 65))
 have BA := asd (heap_alloc_new w (.cells #[.int .i64 0, .int .i64 0, .int .i64 0, .int .i64 0] 65))
 have hx0 := (blk_cell HA.out.blk 0).trans rfl
 have NA : Aside0 (∀ ad, A = some ad → ad.block < w.heap.size) := ⟨fun ad q => hlA ad q⟩
 clear h hl EE hg ht hna hnb hlA
 go_enter Try.func98, Try.ntmps98
 go_wp2_with fail
 generalize w.alloc (.cells #[.int .i64 0, .int .i64 0, .int .i64 0, .int .i64 0] 65) = wa at HA HCA BA hx0 ⊢
 generalize hb2 : w.heap.size = b2 at BA BL ⊢
 have HB2 := asd hb2
 clear hb2
 refine (GC.out wa HA.out).mono ?_
 rintro e w1 ⟨rfl, A1, c1, h1, hc1, ha1⟩
 have H1 := asd (HA.out.get h1 hc1 ha1)
 have HC1 := asd (HCA.out.trans (hc1.mono (fun k hk => (.inl hk : prS gr g k))))
 have AD1 := asd ha1
 have B1 := asd (blk_chg BA.out hc1 (fun q => by have := BL.out; omega))
 clear h1 hc1 ha1 GC HA HCA BA hx0
 have hx0 := (blk_cell H1.out.blk 0).trans rfl
 go_wp2_with fail
 refine (TC.out w1 A1 c1 H1.out).mono ?_
 rintro e w2 ⟨rfl, A2, c2, h2, hc2, ha2⟩
 have H2 := asd (h2.below (below_alloc (Below.refl _ _) (.cells #[.int .i64 tk, .int .i64 (n1 % 16), .int .i64 0, .int .i64 0] 65)))
 have HC2 := asd ((HC1.out.trans hc2).alloc (.cells #[.int .i64 tk, .int .i64 (n1 % 16), .int .i64 0, .int .i64 0] 65))
 have AD2 : Aside0 (∀ ad, A2 = some ad → ∃ ad0, A = some ad0 ∧ ad.block = ad0.block) := ⟨fun ad q => by
  obtain ⟨ad1, q1, q2⟩ := ha2 ad q
  obtain ⟨ad0, q3, q4⟩ := AD1.out ad1 q1
  exact ⟨ad0, q3, q2.trans q4⟩⟩
 have B2 := asd (blk_alloc (blk_chg B1.out hc2 (fun q => by rcases q with q | q <;> (have := BL.out; omega))) (.cells #[.int .i64 tk, .int .i64 (n1 % 16), .int .i64 0, .int .i64 0] 65))
 have E2 := asd (heap_alloc_new w2 (.cells #[.int .i64 tk, .int .i64 (n1 % 16), .int .i64 0, .int .i64 0] 65))
 have LT2 : Aside0 (b2 < w2.heap.size) := ⟨by have h := blk_lt (blk_chg B1.out hc2 (fun q => by rcases q with q | q <;> (have := BL.out; omega))); exact h⟩
 clear h2 hc2 ha2 TC H1 HC1 AD1 B1 hx0
 have hx2 := (blk_cell H2.out.blk 2).trans rfl
 have hf2 := blk_frozen H2.out.blk 2
 have he0 := (blk_cell E2.out 0).trans rfl
 have W3 := asd (H2.out.setOdd (odd2 || decide (72057594037927936 ≤ tk)))
 have tm : Int.tmod n1 16 = n1 % 16 := Int.tmod_eq_emod_of_nonneg n0
 have dge : decide (tk ≥ 72057594037927936) = decide (72057594037927936 ≤ tk) := rfl
 cases odd2 with
 | true =>
  go_wp2_with fail
  generalize w2.alloc (.cells #[.int .i64 tk, .int .i64 (n1 % 16), .int .i64 0, .int .i64 0] 65) = w3 at H2 HC2 B2 E2 W3 hx2 hf2 he0 ⊢
  generalize hb4 : w2.heap.size = b4 at E2 LT2 ⊢
  have LB4 : Aside0 (w2.heap.size = b4) := ⟨hb4⟩
  clear hb4
  have NE : Aside0 (b4 ≠ gr ∧ b4 ≠ g ∧ b4 ≠ b2 ∧ b2 ≠ gr ∧ b2 ≠ g) := ⟨by have := BL.out; have := LT2.out; omega⟩
  have H4 : Aside0 (IsPR (w3.setCell ⟨gr, 2, none⟩ (.bool (true))) gr g er2 last2 (true) A2 c2 bs2) := ⟨H2.out.setOdd _⟩
  have HC4 := asd (HC2.out.set_ (p := ⟨gr, 2, none⟩) (.inl (.inr rfl)) (.bool (true)))
  have B4 := asd (blk_far B2.out (p := ⟨gr, 2, none⟩) NE.out.2.2.2.1 (.bool (true)))
  have E4 := asd (blk_far E2.out (p := ⟨gr, 2, none⟩) NE.out.1 (.bool (true)))
  clear H2 HC2 B2 E2 W3 hx2 hf2 he0
  generalize w3.setCell ⟨gr, 2, none⟩ (.bool (true)) = w4 at H4 HC4 B4 E4 ⊢
  refine (AC.out w4 A2 c2 H4.out).mono ?_
  rintro e w5 ⟨rfl, A5, c5, h5, hc5, ha5⟩
  have B5 := asd (blk_far (blk_chg B4.out hc5 (fun q => by rcases q with q | q <;> (have := NE.out; omega))) (p := ⟨b4, 2, none⟩) (fun q => NE.out.2.2.1 q.symm) (.int .i64 na))
  have E5b := blk_chg E4.out hc5 (fun q => by rcases q with q | q <;> (have := NE.out; omega))
  have E5 := asd (blk_put E5b 2 (.int .i64 na) rfl)
  have hf5 := blk_frozen E5b 2
  have hs5 := (blk_cell E5b 2).trans rfl
  have HS5 := asd ((Chg.refl (fun k => k = b4) w5).set_ (p := ⟨b4, 2, none⟩) (.inl rfl) (.int .i64 na))
  have AD5 : Aside0 (∀ ad, A5 = some ad → ∃ ad0, A = some ad0 ∧ ad.block = ad0.block) := ⟨fun ad q => by
   obtain ⟨ad1, q1, q2⟩ := ha5 ad q
   obtain ⟨ad0, q3, q4⟩ := AD2.out ad1 q1
   exact ⟨ad0, q3, q2.trans q4⟩⟩
  have H5 := asd (h5.chg HS5.out (fun q => NE.out.1 q.symm) (fun q => NE.out.2.1 q.symm) (fun ad q e => by
   obtain ⟨ad0, q3, q4⟩ := AD5.out ad q
   have h := NA.out ad0 q3
   have : ad.block = b4 := e
   have h6 := HB2.out
   have h7 := LT2.out
   omega))
  have HC5 := asd ((HC4.out.trans hc5).set_ (p := ⟨b4, 2, none⟩) (.inr (by show w.heap.size ≤ b4; have := LT2.out; have := HB2.out; omega)) (.int .i64 na))
  clear h5 hc5 ha5 AC H4 HC4 B4 E4 E5b HS5 AD2
  have hx5 := (blk_cell E5.out 0).trans rfl
  go_wp2_with fail
  clear hf5 hx5 hs5
  generalize w5.setCell ⟨b4, 2, none⟩ (.int .i64 na) = w6 at H5 HC5 B5 E5 ⊢
  refine (BC.out w6 A5 c5 H5.out).mono ?_
  rintro e w7 ⟨rfl, A7, c7, h7, hc7, ha7⟩
  have B7 := asd (blk_far (blk_chg B5.out hc7 (fun q => by rcases q with q | q <;> (have := NE.out; omega))) (p := ⟨b4, 3, none⟩) (fun q => NE.out.2.2.1 q.symm) (.int .i64 nb))
  have E7b := blk_chg E5.out hc7 (fun q => by rcases q with q | q <;> (have := NE.out; omega))
  have E7 := asd (blk_put E7b 3 (.int .i64 nb) rfl)
  have hf7 := blk_frozen E7b 3
  have hs7 := (blk_cell E7b 3).trans rfl
  have HS7 := asd ((Chg.refl (fun k => k = b4) w7).set_ (p := ⟨b4, 3, none⟩) (.inl rfl) (.int .i64 nb))
  have AD7 : Aside0 (∀ ad, A7 = some ad → ∃ ad0, A = some ad0 ∧ ad.block = ad0.block) := ⟨fun ad q => by
   obtain ⟨ad1, q1, q2⟩ := ha7 ad q
   obtain ⟨ad0, q3, q4⟩ := AD5.out ad1 q1
   exact ⟨ad0, q3, q2.trans q4⟩⟩
  have H7 := asd (h7.chg HS7.out (fun q => NE.out.1 q.symm) (fun q => NE.out.2.1 q.symm) (fun ad q e => by
   obtain ⟨ad0, q3, q4⟩ := AD7.out ad q
   have h := NA.out ad0 q3
   have : ad.block = b4 := e
   have h6 := HB2.out
   have h7 := LT2.out
   omega))
  have HC7 := asd ((HC5.out.trans hc7).set_ (p := ⟨b4, 3, none⟩) (.inr (by show w.heap.size ≤ b4; have := LT2.out; have := HB2.out; omega)) (.int .i64 nb))
  clear h7 hc7 ha7 BC H5 HC5 B5 E5 E7b HS7 AD5
  have hx0 := (blk_cell E7.out 0).trans rfl
  have hx1 := (blk_cell E7.out 1).trans rfl
  have hx2 := (blk_cell E7.out 2).trans rfl
  have hx3 := (blk_cell E7.out 3).trans rfl
  have H8 := asd (H7.out.setLast tk)
  have E8 := asd (blk_far E7.out (p := ⟨gr, 1, none⟩) NE.out.1 (.int .i64 tk))
  have B8 := asd (blk_far B7.out (p := ⟨gr, 1, none⟩) NE.out.2.2.2.1 (.int .i64 tk))
  have HC8 := asd (HC7.out.set_ (p := ⟨gr, 1, none⟩) (.inl (.inr rfl)) (.int .i64 tk))
  have hg1 := (blk_cell H7.out.blk 1).trans rfl
  have hg1f := blk_frozen H7.out.blk 1
  have y0 := (blk_cell E8.out 0).trans rfl
  have y1 := (blk_cell E8.out 1).trans rfl
  have y2 := (blk_cell E8.out 2).trans rfl
  have y3 := (blk_cell E8.out 3).trans rfl
  have r0 := blk_frozen B8.out 0
  have r1 := blk_frozen B8.out 1
  have r2 := blk_frozen B8.out 2
  have r3 := blk_frozen B8.out 3
  have z0 := (blk_cell B8.out 0).trans rfl
  have z1 := (blk_cell B8.out 1).trans rfl
  have z2 := (blk_cell B8.out 2).trans rfl
  have z3 := (blk_cell B8.out 3).trans rfl
  go_wp2
  refine bodyPost_ret (results_row1 Try.results98 _ _ b2 65 #[.int .i64 tk, .int .i64 (n1 % 16), .int .i64 na, .int .i64 nb] (0, 0) _ rfl (blk_put (blk_put (blk_put (blk_put B8.out 0 _ rfl) 1 _ rfl) 2 _ rfl) 3 _ rfl) Try.underlying65 rfl (by kernel_rfl)) rfl ?_
  refine ⟨rfl, A7, c7, H8.out.chg (S := fun k => k = b2) ?_ (fun q => NE.out.2.2.2.1 q.symm) (fun q => NE.out.2.2.2.2 q.symm) (fun ad q e => ?_), ?_, AD7.out⟩
  ·exact ((((Chg.refl (fun k => k = b2) _).set_ (p := ⟨b2, 0, none⟩) (.inl rfl) _).set_ (p := ⟨b2, 1, none⟩) (.inl rfl) _).set_ (p := ⟨b2, 2, none⟩) (.inl rfl) _).set_ (p := ⟨b2, 3, none⟩) (.inl rfl) _
  ·obtain ⟨ad0, q3, q4⟩ := AD7.out ad q
   have h := NA.out ad0 q3
   have : ad.block = b2 := e
   have := HB2.out
   omega
  ·exact (((HC8.out.set_ (p := ⟨b2, 0, none⟩) (.inr (Nat.le_of_eq HB2.out)) _).set_ (p := ⟨b2, 1, none⟩) (.inr (Nat.le_of_eq HB2.out)) _).set_ (p := ⟨b2, 2, none⟩) (.inr (Nat.le_of_eq HB2.out)) _).set_ (p := ⟨b2, 3, none⟩) (.inr (Nat.le_of_eq HB2.out)) _
 | false =>
  go_wp2_with fail
  generalize w2.alloc (.cells #[.int .i64 tk, .int .i64 (n1 % 16), .int .i64 0, .int .i64 0] 65) = w3 at H2 HC2 B2 E2 W3 hx2 hf2 he0 ⊢
  generalize hb4 : w2.heap.size = b4 at E2 LT2 ⊢
  have LB4 : Aside0 (w2.heap.size = b4) := ⟨hb4⟩
  clear hb4
  have NE : Aside0 (b4 ≠ gr ∧ b4 ≠ g ∧ b4 ≠ b2 ∧ b2 ≠ gr ∧ b2 ≠ g) := ⟨by have := BL.out; have := LT2.out; omega⟩
  have H4 : Aside0 (IsPR (w3.setCell ⟨gr, 2, none⟩ (.bool (decide (72057594037927936 ≤ tk)))) gr g er2 last2 (decide (72057594037927936 ≤ tk)) A2 c2 bs2) := ⟨H2.out.setOdd _⟩
  have HC4 := asd (HC2.out.set_ (p := ⟨gr, 2, none⟩) (.inl (.inr rfl)) (.bool (decide (72057594037927936 ≤ tk))))
  have B4 := asd (blk_far B2.out (p := ⟨gr, 2, none⟩) NE.out.2.2.2.1 (.bool (decide (72057594037927936 ≤ tk))))
  have E4 := asd (blk_far E2.out (p := ⟨gr, 2, none⟩) NE.out.1 (.bool (decide (72057594037927936 ≤ tk))))
  clear H2 HC2 B2 E2 W3 hx2 hf2 he0
  generalize w3.setCell ⟨gr, 2, none⟩ (.bool (decide (72057594037927936 ≤ tk))) = w4 at H4 HC4 B4 E4 ⊢
  refine (AC.out w4 A2 c2 H4.out).mono ?_
  rintro e w5 ⟨rfl, A5, c5, h5, hc5, ha5⟩
  have B5 := asd (blk_far (blk_chg B4.out hc5 (fun q => by rcases q with q | q <;> (have := NE.out; omega))) (p := ⟨b4, 2, none⟩) (fun q => NE.out.2.2.1 q.symm) (.int .i64 na))
  have E5b := blk_chg E4.out hc5 (fun q => by rcases q with q | q <;> (have := NE.out; omega))
  have E5 := asd (blk_put E5b 2 (.int .i64 na) rfl)
  have hf5 := blk_frozen E5b 2
  have hs5 := (blk_cell E5b 2).trans rfl
  have HS5 := asd ((Chg.refl (fun k => k = b4) w5).set_ (p := ⟨b4, 2, none⟩) (.inl rfl) (.int .i64 na))
  have AD5 : Aside0 (∀ ad, A5 = some ad → ∃ ad0, A = some ad0 ∧ ad.block = ad0.block) := ⟨fun ad q => by
   obtain ⟨ad1, q1, q2⟩ := ha5 ad q
   obtain ⟨ad0, q3, q4⟩ := AD2.out ad1 q1
   exact ⟨ad0, q3, q2.trans q4⟩⟩
  have H5 := asd (h5.chg HS5.out (fun q => NE.out.1 q.symm) (fun q => NE.out.2.1 q.symm) (fun ad q e => by
   obtain ⟨ad0, q3, q4⟩ := AD5.out ad q
   have h := NA.out ad0 q3
   have : ad.block = b4 := e
   have h6 := HB2.out
   have h7 := LT2.out
   omega))
  have HC5 := asd ((HC4.out.trans hc5).set_ (p := ⟨b4, 2, none⟩) (.inr (by show w.heap.size ≤ b4; have := LT2.out; have := HB2.out; omega)) (.int .i64 na))
  clear h5 hc5 ha5 AC H4 HC4 B4 E4 E5b HS5 AD2
  have hx5 := (blk_cell E5.out 0).trans rfl
  go_wp2_with fail
  clear hf5 hx5 hs5
  generalize w5.setCell ⟨b4, 2, none⟩ (.int .i64 na) = w6 at H5 HC5 B5 E5 ⊢
  refine (BC.out w6 A5 c5 H5.out).mono ?_
  rintro e w7 ⟨rfl, A7, c7, h7, hc7, ha7⟩
  have B7 := asd (blk_far (blk_chg B5.out hc7 (fun q => by rcases q with q | q <;> (have := NE.out; omega))) (p := ⟨b4, 3, none⟩) (fun q => NE.out.2.2.1 q.symm) (.int .i64 nb))
  have E7b := blk_chg E5.out hc7 (fun q => by rcases q with q | q <;> (have := NE.out; omega))
  have E7 := asd (blk_put E7b 3 (.int .i64 nb) rfl)
  have hf7 := blk_frozen E7b 3
  have hs7 := (blk_cell E7b 3).trans rfl
  have HS7 := asd ((Chg.refl (fun k => k = b4) w7).set_ (p := ⟨b4, 3, none⟩) (.inl rfl) (.int .i64 nb))
  have AD7 : Aside0 (∀ ad, A7 = some ad → ∃ ad0, A = some ad0 ∧ ad.block = ad0.block) := ⟨fun ad q => by
   obtain ⟨ad1, q1, q2⟩ := ha7 ad q
   obtain ⟨ad0, q3, q4⟩ := AD5.out ad1 q1
   exact ⟨ad0, q3, q2.trans q4⟩⟩
  have H7 := asd (h7.chg HS7.out (fun q => NE.out.1 q.symm) (fun q => NE.out.2.1 q.symm) (fun ad q e => by
   obtain ⟨ad0, q3, q4⟩ := AD7.out ad q
   have h := NA.out ad0 q3
   have : ad.block = b4 := e
   have h6 := HB2.out
   have h7 := LT2.out
   omega))
  have HC7 := asd ((HC5.out.trans hc7).set_ (p := ⟨b4, 3, none⟩) (.inr (by show w.heap.size ≤ b4; have := LT2.out; have := HB2.out; omega)) (.int .i64 nb))
  clear h7 hc7 ha7 BC H5 HC5 B5 E5 E7b HS7 AD5
  have hx0 := (blk_cell E7.out 0).trans rfl
  have hx1 := (blk_cell E7.out 1).trans rfl
  have hx2 := (blk_cell E7.out 2).trans rfl
  have hx3 := (blk_cell E7.out 3).trans rfl
  have H8 := asd (H7.out.setLast tk)
  have E8 := asd (blk_far E7.out (p := ⟨gr, 1, none⟩) NE.out.1 (.int .i64 tk))
  have B8 := asd (blk_far B7.out (p := ⟨gr, 1, none⟩) NE.out.2.2.2.1 (.int .i64 tk))
  have HC8 := asd (HC7.out.set_ (p := ⟨gr, 1, none⟩) (.inl (.inr rfl)) (.int .i64 tk))
  have hg1 := (blk_cell H7.out.blk 1).trans rfl
  have hg1f := blk_frozen H7.out.blk 1
  have y0 := (blk_cell E8.out 0).trans rfl
  have y1 := (blk_cell E8.out 1).trans rfl
  have y2 := (blk_cell E8.out 2).trans rfl
  have y3 := (blk_cell E8.out 3).trans rfl
  have r0 := blk_frozen B8.out 0
  have r1 := blk_frozen B8.out 1
  have r2 := blk_frozen B8.out 2
  have r3 := blk_frozen B8.out 3
  have z0 := (blk_cell B8.out 0).trans rfl
  have z1 := (blk_cell B8.out 1).trans rfl
  have z2 := (blk_cell B8.out 2).trans rfl
  have z3 := (blk_cell B8.out 3).trans rfl
  go_wp2
  refine bodyPost_ret (results_row1 Try.results98 _ _ b2 65 #[.int .i64 tk, .int .i64 (n1 % 16), .int .i64 na, .int .i64 nb] (0, 0) _ rfl (blk_put (blk_put (blk_put (blk_put B8.out 0 _ rfl) 1 _ rfl) 2 _ rfl) 3 _ rfl) Try.underlying65 rfl (by kernel_rfl)) rfl ?_
  refine ⟨rfl, A7, c7, H8.out.chg (S := fun k => k = b2) ?_ (fun q => NE.out.2.2.2.1 q.symm) (fun q => NE.out.2.2.2.2 q.symm) (fun ad q e => ?_), ?_, AD7.out⟩
  ·exact ((((Chg.refl (fun k => k = b2) _).set_ (p := ⟨b2, 0, none⟩) (.inl rfl) _).set_ (p := ⟨b2, 1, none⟩) (.inl rfl) _).set_ (p := ⟨b2, 2, none⟩) (.inl rfl) _).set_ (p := ⟨b2, 3, none⟩) (.inl rfl) _
  ·obtain ⟨ad0, q3, q4⟩ := AD7.out ad q
   have h := NA.out ad0 q3
   have : ad.block = b2 := e
   have := HB2.out
   omega
  ·exact (((HC8.out.set_ (p := ⟨b2, 0, none⟩) (.inr (Nat.le_of_eq HB2.out)) _).set_ (p := ⟨b2, 1, none⟩) (.inr (Nat.le_of_eq HB2.out)) _).set_ (p := ⟨b2, 2, none⟩) (.inr (Nat.le_of_eq HB2.out)) _).set_ (p := ⟨b2, 3, none⟩) (.inr (Nat.le_of_eq HB2.out)) _
end Go.Proofs.Ytalimpniimgheaa.Fn
namespace Go.Proofs.Ytalimpniimgheaa.Fn
open Go.RowKit Go.Proofs.YtalimpniimgheaaW.PrintWords Go.Proofs.YtalimpniimgheaaW.PrintLast Go.Proofs.YtalimpniimgheaaW.PrintMore
set_option linter.unusedVariables false
set_option linter.unusedSimpArgs false
theorem loopG_step0 {n : Nat} {s : GS} (h : s.odd = false) (h0 : s.er = 0) : loopG (n + 1) s = ((entG s).1 :: (loopG n (entG s).2).1, (loopG n (entG s).2).2) := by
 show (if s.odd = true ∨ s.er ≠ 0 then _ else _) = _
 rw [if_neg (by rw [h, h0]; simp)]
theorem flat_one (n : Int) : (([n] : List Int).map (numB 7)).flatten = numB 7 n := by simp
theorem get_inv {s : GS} {n : Nat} (hb : Bytes s.bs) (h : (s.get n).2.er = 0) : s.er = 0 ∧ s.bs = numB n (s.get n).1 ++ (s.get n).2.bs ∧ (s.get n).2.last = s.last ∧ (s.get n).2.odd = s.odd ∧ 0 ≤ (s.get n).1 ∧ (s.get n).1 < 256 ^ n ∧ Bytes (s.get n).2.bs := by
 obtain ⟨er, bs, last, odd⟩ := s
 unfold GS.get at h ⊢
 simp only at h hb ⊢
 by_cases he : er = 0
 ·subst he
  by_cases hl : bs.length < n
  ·rw [getS_short hl] at h; simp at h
  ·rw [getS_ok (by omega)]
   have hlen : (bs.take n).length = n := by rw [List.length_take]; omega
   have h1 := num_val (bs.take n) (hb.take n)
   rw [hlen] at h1
   have h2 := valB_bd (bs.take n) (hb.take n)
   rw [hlen] at h2
   refine ⟨by first | rfl | trivial, ?_, by first | rfl | trivial, by first | rfl | trivial, h2.1, h2.2, hb.drop n⟩
   simp only
   rw [h1, List.take_append_drop]
 ·rw [getS_err (show (er, bs).1 ≠ 0 from he)] at h
  exact absurd h he
theorem refuse_inv {s : GS} {b : Bool} (h : (s.refuse b).odd = false) (he : s.er = 0) : s.odd = false ∧ b = false := by
 unfold GS.refuse at h
 simp only [he, beq_self_eq_true, Bool.true_and, Bool.or_eq_false_iff] at h
 exact h
theorem numG_inv {s : GS} {told : Bool} (hb : Bytes s.bs) (h : (numG s told).2.er = 0) (ho : (numG s told).2.odd = false) : s.er = 0 ∧ s.odd = false ∧ s.bs = ((restN (numG s told).1).map (numB 7)).flatten ++ (numG s told).2.bs ∧ told = !decide ((numG s told).1 = 0) ∧ 0 ≤ (numG s told).1 ∧ (numG s told).1 < 72057594037927936 ∧ Bytes (numG s told).2.bs := by
 cases told with
 | false =>
  have e : numG s false = (0, s) := rfl
  rw [e] at h ho ⊢
  exact ⟨h, ho, by simp [restN], by simp, by simp, by simp, hb⟩
 | true =>
  have e : numG s true = ((s.get 7).1, (s.get 7).2.refuse ((s.get 7).1 == 0)) := rfl
  rw [e] at h ho ⊢
  have her : (s.get 7).2.er = 0 := h
  have h1 := get_inv hb her
  have h2 := refuse_inv ho her
  have hne : (s.get 7).1 ≠ 0 := by simpa using h2.2
  have e7 : (256 : Int) ^ 7 = 72057594037927936 := by decide
  refine ⟨h1.1, by rw [← h1.2.2.2.1]; exact h2.1, ?_, by simp [hne], h1.2.2.2.2.1, by rw [← e7]; exact h1.2.2.2.2.2.1, h1.2.2.2.2.2.2⟩
  simp only [restN, if_neg hne, flat_one]
  exact h1.2.1
theorem tickG_inv {s : GS} {hd : Int} (hb : Bytes s.bs) (h : (tickG s hd).2.er = 0) (ho : (tickG s hd).2.odd = false) (l0 : 0 ≤ s.last) : s.er = 0 ∧ s.odd = false ∧ s.bs = ((restT s.last (tickG s hd).1).map (numB 7)).flatten ++ (tickG s hd).2.bs ∧ hd / 64 % 4 * 64 = headT s.last (tickG s hd).1 ∧ 0 ≤ (tickG s hd).1 ∧ Bytes (tickG s hd).2.bs := by
 unfold tickG at h ho ⊢
 by_cases q1 : hd / 64 % 4 = 1
 ·rw [if_pos q1] at h ho ⊢
  exact ⟨h, ho, by simp [restT], by simp [headT, q1], l0, hb⟩
 ·rw [if_neg q1] at h ho ⊢
  by_cases q2 : hd / 64 % 4 = 2
  ·rw [if_pos q2] at h ho ⊢
   have hne : ¬ s.last + 1 = s.last := by omega
   exact ⟨h, ho, by simp [restT, hne], by simp [headT, hne, q2], by show 0 ≤ s.last + 1; omega, hb⟩
  ·rw [if_neg q2] at h ho ⊢
   by_cases q3 : hd / 64 % 4 = 0
   ·rw [if_pos q3] at h ho ⊢
    have her : (s.get 7).2.er = 0 := h
    have h1 := get_inv hb her
    have h2 := refuse_inv ho her
    simp only [Bool.or_eq_false_iff, beq_eq_false_iff_ne] at h2
    refine ⟨h1.1, by rw [← h1.2.2.2.1]; exact h2.1, ?_, ?_, h1.2.2.2.2.1, h1.2.2.2.2.2.2⟩
    ·simp only [restT, if_neg h2.2.1, if_neg h2.2.2, flat_one]
     exact h1.2.1
    ·simp only [headT, if_neg h2.2.1, if_neg h2.2.2, q3]; rfl
   ·rw [if_neg q3] at ho
    simp at ho
theorem entG_inv {s : GS} (hb : Bytes s.bs) (h : (entG s).2.er = 0) (ho : (entG s).2.odd = false) (l0 : 0 ≤ s.last) : s.er = 0 ∧ s.odd = false ∧ OkP (entG s).1 ∧ s.bs = entP s.last (entG s).1 ++ (entG s).2.bs ∧ Bytes (entG s).2.bs := by
 unfold entG at h ho ⊢
 simp only at h ho ⊢
 generalize hh : s.get 1 = rh at h ho ⊢
 generalize ht : tickG rh.2 rh.1 = rt at h ho ⊢
 generalize ha : numG (bigG rt.2 rt.1) (rh.1 / 16 % 2 == 0) = ra at h ho ⊢
 generalize hbb : numG ra.2 (rh.1 / 32 % 2 == 0) = rb at h ho ⊢
 -- backwards: what was read last of all first
 have hB1 : Bytes rh.2.bs := by
  have h1 := getS_bd 1 (by omega) (s.er, s.bs) hb
  rw [← hh]; exact h1.2.2.1
 have hB2 : Bytes rt.2.bs := by
  rw [← ht]
  unfold tickG
  split
  ·exact hB1
  ·split
   ·exact hB1
   ·split
    ·exact (getS_bd 7 (by omega) (rh.2.er, rh.2.bs) hB1).2.2.1
    ·exact hB1
 have hB3 : Bytes ra.2.bs := by
  rw [← ha]
  unfold numG
  split
  ·exact (getS_bd 7 (by omega) (rt.2.er, rt.2.bs) hB2).2.2.1
  ·exact hB2
 have b1 := numG_inv (s := ra.2) (told := (rh.1 / 32 % 2 == 0)) hB3 (by rw [hbb]; exact h) (by rw [hbb]; exact ho)
 rw [hbb] at b1
 have a1 := numG_inv (s := bigG rt.2 rt.1) (told := (rh.1 / 16 % 2 == 0)) hB2 (by rw [ha]; exact b1.1) (by rw [ha]; exact b1.2.1)
 rw [ha] at a1
 have big : rt.2.odd = false ∧ rt.1 < 72057594037927936 := by
  have h2 := a1.2.1
  unfold bigG at h2
  simp only [Bool.or_eq_false_iff, decide_eq_false_iff_not] at h2
  exact ⟨h2.1, by omega⟩
 have hl1 : rh.2.last = s.last := by rw [← hh]; rfl
 have t1 := tickG_inv (s := rh.2) (hd := rh.1) hB1 (by rw [ht]; exact a1.1) (by rw [ht]; exact big.1) (by rw [hl1]; exact l0)
 rw [ht, hl1] at t1
 have g1 := get_inv (s := s) (n := 1) hb (by rw [hh]; exact t1.1)
 rw [hh] at g1
 have hd0 := g1.2.2.2.2.1
 have hd9 : rh.1 < 256 := by simpa using g1.2.2.2.2.2.1
 have hso : s.odd = false := by rw [← g1.2.2.2.1]; exact t1.2.1
 have ok : OkP ⟨rt.1, rh.1 % 16, ra.1, rb.1⟩ := ⟨⟨Int.emod_nonneg _ (by omega), Int.emod_lt_of_pos _ (by omega)⟩, ⟨t1.2.2.2.2.1, big.2⟩, ⟨a1.2.2.2.2.1, a1.2.2.2.2.2.1⟩, b1.2.2.2.2.1, b1.2.2.2.2.2.1⟩
 refine ⟨g1.1, hso, ok, ?_, b1.2.2.2.2.2.2⟩
 have hT := t1.2.2.2.1
 have hA : (if ra.1 = 0 then (16 : Int) else 0) = rh.1 / 16 % 2 * 16 := by
  have h2 := a1.2.2.2.1
  by_cases q : ra.1 = 0
  ·rw [if_pos q]; rw [decide_eq_true q] at h2
   have h3 : rh.1 / 16 % 2 ≠ 0 := by simpa using h2
   omega
  ·rw [if_neg q]; rw [decide_eq_false q] at h2
   have h3 : rh.1 / 16 % 2 = 0 := by simpa using h2
   omega
 have hBit : (if rb.1 = 0 then (32 : Int) else 0) = rh.1 / 32 % 2 * 32 := by
  have h2 := b1.2.2.2.1
  by_cases q : rb.1 = 0
  ·rw [if_pos q]; rw [decide_eq_true q] at h2
   have h3 : rh.1 / 32 % 2 ≠ 0 := by simpa using h2
   omega
  ·rw [if_neg q]; rw [decide_eq_false q] at h2
   have h3 : rh.1 / 32 % 2 = 0 := by simpa using h2
   omega
 have hH : headP s.last ⟨rt.1, rh.1 % 16, ra.1, rb.1⟩ = rh.1 := by
  show rh.1 % 16 + headT s.last rt.1 + (if ra.1 = 0 then 16 else 0) + (if rb.1 = 0 then 32 else 0) = rh.1
  rw [hA, hBit, ← hT]
  omega
 unfold entP restP
 rw [hH]
 simp only [List.map_append, List.flatten_append, List.append_assoc]
 rw [g1.2.1, t1.2.2.1, show rt.2.bs = (bigG rt.2 rt.1).bs from rfl, a1.2.2.1, b1.2.2.1]
theorem loopG_inv : ∀ (n : Nat) (s : GS), s.er = 0 → s.odd = false → Bytes s.bs → 0 ≤ s.last → s.last < 72057594037927936 → (loopG n s).2.er = 0 → (loopG n s).2.odd = false → (loopG n s).1.length = n ∧ (∀ x, x ∈ (loopG n s).1 → OkP x) ∧ s.bs = bodyP s.last (loopG n s).1 ++ (loopG n s).2.bs ∧ Bytes (loopG n s).2.bs := by
 intro n
 induction n with
 | zero =>
  intro s _ _ hb _ _ _ _
  exact ⟨rfl, fun x hx => by simp [loopG] at hx, rfl, hb⟩
 | succ n ih =>
  intro s he ho hb l0 l9 hfe hfo
  rw [loopG_step0 ho he] at hfe hfo ⊢
  by_cases q : (entG s).2.odd = true ∨ (entG s).2.er ≠ 0
  ·have hst : loopG n (entG s).2 = ([], (entG s).2) := by
    cases n with
    | zero => rfl
    | succ n => show (if (entG s).2.odd = true ∨ (entG s).2.er ≠ 0 then _ else _) = _; rw [if_pos q]
   simp only [hst] at hfe hfo
   rcases q with q | q
   ·rw [hfo] at q; cases q
   ·exact absurd hfe q
  ·have he2 : (entG s).2.er = 0 := by
    by_cases q2 : (entG s).2.er = 0
    ·exact q2
    ·exact absurd (.inr q2) q
   have ho2 : (entG s).2.odd = false := by
    cases q2 : (entG s).2.odd with
    | true => exact absurd (.inl q2) q
    | false => rfl
   obtain ⟨_, _, hok, hbs, hb2⟩ := entG_inv hb he2 ho2 l0
   have hlast : (entG s).2.last = (entG s).1.f0 := rfl
   obtain ⟨i1, i2, i3, i4⟩ := ih (entG s).2 he2 ho2 hb2 (by rw [hlast]; exact hok.2.1.1) (by rw [hlast]; exact hok.2.1.2) hfe hfo
   refine ⟨by simp [i1], fun x hx => ?_, ?_, i4⟩
   ·rcases List.mem_cons.1 hx with rfl | hx
    ·exact hok
    ·exact i2 x hx
   ·show s.bs = (entP s.last (entG s).1 ++ bodyP (entG s).1.f0 (loopG n (entG s).2).1) ++ _
    rw [List.append_assoc, ← hlast, ← i3]
    exact hbs
theorem bodyP_len1 (l : List S65) : ∀ last, l.length ≤ (bodyP last l).length := by
 induction l with
 | nil => intro last; simp
 | cons x l ih =>
  intro last
  have h1 := ih x.f0
  show _ ≤ (entP last x ++ bodyP x.f0 l).length
  have h2 : 1 ≤ (entP last x).length := by unfold entP; rw [List.length_append, numB_len]; omega
  rw [List.length_append, List.length_cons]; omega
theorem put_get (b : List Int) (hb : Bytes b) (l : List S65) (h : getP b = (l, 0)) : putP l = (b, 0) ∧ l.length ≤ b.length ∧ l.length ≤ 65536 := by
 unfold getP at h
 simp only at h
 generalize hg : getS 4 (0, b) = rn at h
 obtain ⟨n, er, bs⟩ := rn
 simp only at h
 generalize hr : loopG n.toNat ⟨er, bs, 0, decide (65536 < n)⟩ = r at h
 obtain ⟨out, ser, sbs, slast, sodd⟩ := r
 simp only at h
 cases sodd with
 | true => simp at h
 | false =>
  simp only [Bool.false_eq_true, if_false] at h
  by_cases hm : (getS 2 (ser, sbs)).2.1 ≠ 0
  ·rw [if_pos hm] at h; simp at h
  ·rw [if_neg hm] at h
   have hm0 : (getS 2 (ser, sbs)).2.1 = 0 := by simpa using hm
   have hse : ser = 0 := by
    by_cases q : ser = 0
    ·exact q
    ·rw [getS_err (show (ser, sbs).1 ≠ 0 from q)] at hm0; exact absurd hm0 q
   subst hse
   simp only [if_true] at h
   by_cases hc : (getS 2 (0, sbs)).1 ≠ sumP (b.take (b.length - sbs.length)) ∨ 0 < (getS 2 (0, sbs)).2.2.length
   ·rw [if_pos hc] at h; simp at h
   ·rw [if_neg hc] at h
    obtain rfl : out = l := by simpa using h
    have hc1 : (getS 2 (0, sbs)).1 = sumP (b.take (b.length - sbs.length)) := by
     by_cases q : (getS 2 (0, sbs)).1 = sumP (b.take (b.length - sbs.length))
     ·exact q
     ·exact absurd (.inl q) hc
    have hc2 : (getS 2 (0, sbs)).2.2 = [] := by
     have : ¬ 0 < (getS 2 (0, sbs)).2.2.length := fun q => hc (.inr q)
     exact List.eq_nil_of_length_eq_zero (by omega)
    -- the loop began well
    have hods : ∀ (n : Nat) (s : GS), (loopG n s).2.odd = false → s.odd = false := by
     intro n s q
     cases hs : s.odd with
     | false => rfl
     | true =>
      have : loopG n s = ([], s) := by
       cases n with
       | zero => rfl
       | succ n => show (if s.odd = true ∨ s.er ≠ 0 then _ else _) = _; rw [if_pos (.inl hs)]
      rw [this, hs] at q; cases q
    have hers : ∀ (n : Nat) (s : GS), (loopG n s).2.er = 0 → s.er = 0 := by
     intro n s q
     by_cases hs : s.er = 0
     ·exact hs
     ·have : loopG n s = ([], s) := by
       cases n with
       | zero => rfl
       | succ n => show (if s.odd = true ∨ s.er ≠ 0 then _ else _) = _; rw [if_pos (.inr hs)]
      rw [this] at q; exact absurd q hs
    have ho := hods n.toNat ⟨er, bs, 0, decide (65536 < n)⟩ (by rw [hr])
    have he := hers n.toNat ⟨er, bs, 0, decide (65536 < n)⟩ (by rw [hr])
    simp only at ho he
    subst he
    have hn : n ≤ 65536 := by have := of_decide_eq_false ho; omega
    have g4 := get_inv (s := ⟨0, b, 0, false⟩) (n := 4) hb (by unfold GS.get; simp only [hg])
    unfold GS.get at g4
    simp only [hg] at g4
    have hli := loopG_inv n.toNat ⟨0, bs, 0, decide (65536 < n)⟩ rfl ho g4.2.2.2.2.2.2 (by simp) (by simp) (by rw [hr]) (by rw [hr])
    rw [hr] at hli
    simp only at hli
    have g2 := get_inv (s := ⟨0, sbs, 0, false⟩) (n := 2) hli.2.2.2 (by unfold GS.get; simp only; exact hm0)
    unfold GS.get at g2
    simp only at g2
    have hsb : sbs = numB 2 (getS 2 (0, sbs)).1 := by
     have h2 := g2.2.1
     rw [hc2, List.append_nil] at h2
     exact h2
    have hnl : n = (out.length : Int) := by have := hli.1; have := g4.2.2.2.2.1; omega
    have hb0 : b = allP out ++ sbs := by
     rw [g4.2.1, hli.2.2.1, hnl, ← List.append_assoc]; rfl
    have htk : b.take (b.length - sbs.length) = allP out := by
     rw [hb0]
     have := List.take_left' (l₁ := allP out) (l₂ := sbs) rfl
     rw [List.length_append, Nat.add_sub_cancel]; exact this
    rw [htk] at hc1
    have hlen : out.length ≤ b.length := by
     have h1 := bodyP_len1 out 0
     rw [hb0]; unfold allP
     simp only [List.length_append]; omega
    refine ⟨?_, hlen, by omega⟩
    unfold putP
    rw [if_pos hli.2.1, if_pos (by omega), ← hc1, ← hsb, ← hb0]
theorem getP_nil (b : List Int) (h : (getP b).2 ≠ 0) : (getP b).1 = [] := by
 unfold getP at h ⊢
 simp only at h ⊢
 generalize loopG (getS 4 (0, b)).1.toNat ⟨(getS 4 (0, b)).2.1, (getS 4 (0, b)).2.2, 0, decide (65536 < (getS 4 (0, b)).1)⟩ = r at h ⊢
 generalize (if r.2.er = 0 then r.2.bs.length else 0) = lf at h ⊢
 generalize getS 2 (r.2.er, r.2.bs) = m at h ⊢
 by_cases h1 : r.2.odd = true
 ·rw [if_pos h1]
 ·rw [if_neg h1] at h ⊢
  by_cases h2 : m.2.1 ≠ 0
  ·rw [if_pos h2]
  ·rw [if_neg h2] at h ⊢
   by_cases h3 : m.1 ≠ sumP (b.take (b.length - lf)) ∨ 0 < m.2.2.length
   ·rw [if_pos h3]
   ·rw [if_neg h3] at h
    exact absurd rfl h
end Go.Proofs.Ytalimpniimgheaa.Fn
namespace Go.Proofs.Ytalimpniimgheaa.Fn
open Go.RowKit Go.Proofs.YtalimpniimgheaaW.PrintWords Go.Proofs.YtalimpniimgheaaW.PrintLast Go.Proofs.YtalimpniimgheaaW.PrintMore
attribute [local go_sem] max2_int min2_int max_two min_two max_three min_three max_four min_four
set_option linter.unusedVariables false
set_option linter.unusedSimpArgs false
def pack_odd_1.f (a0 : Int) : Option (Bool) := if a0 < 0 then (some true) else (some (decide (a0 ≥ 72057594037927936)))
set_option maxHeartbeats 8000000 in
set_option maxRecDepth 100000 in
theorem pack_odd_1.calls (a0 : Int) (r : Bool) (w : World) (h : pack_odd_1.f a0 = some r) :
  Calls Try.prog 118 #[.int .i64 a0] w fun e w' => e = .returned (.bool r) ∧ Drawn0 w w' := by
 have H : (if a0 < 0 then (some true) else (some (decide (a0 ≥ 72057594037927936)))) = some r := h
 clear h
 by_cases c2 : a0 < 0
 ·rw [if_pos c2] at H
  have c2b0 : decide (a0 < 0) = true := decide_eq_true c2
  clear c2
  obtain rfl := Option.some.inj H
  go_enter Try.func118, Try.ntmps118
  go_wp2
  go_ret
  exact ⟨by first | rfl | (simp; done) | (simp [*]; done), by repeat (first | exact Drawn0.refl _ | apply Drawn0.step)⟩
 ·rw [if_neg c2] at H
  have c2b0 : decide (a0 < 0) = false := decide_eq_false c2
  clear c2
  obtain rfl := Option.some.inj H
  go_enter Try.func118, Try.ntmps118
  go_wp2
  go_ret
  exact ⟨by first | rfl | (simp; done) | (simp [*]; done), by repeat (first | exact Drawn0.refl _ | apply Drawn0.step)⟩
end Go.Proofs.Ytalimpniimgheaa.Fn
namespace Go.Proofs.Ytalimpniimgheaa.Fn
open Go.RowKit Go.Proofs.YtalimpniimgheaaW.PrintWords Go.Proofs.YtalimpniimgheaaW.PrintLast Go.Proofs.YtalimpniimgheaaW.PrintMore
attribute [local go_sem] max2_int min2_int max_two min_two max_three min_three max_four min_four
set_option linter.unusedVariables false
set_option linter.unusedSimpArgs false
def slices_IndexFunc_int_int.l0 : Nat → List Int → Int → Int → Option (Int)
 | 0, _, _, _ => none
 | k + 1, x0, x7, x8 => if x8 < x7 then (if 0 ≤ x8 then (if x8 < (x0.length : Int) then ((pack_odd_1.f (rd x0 x8)).bind fun t123 => (if t123 = true then (some x8) else (slices_IndexFunc_int_int.l0 k x0 x7 (wrap64 (x8 + 1))))) else (none)) else (none)) else (some (-1))
def slices_IndexFunc_int_int.f (k : Nat) (l0 : List Int)  : Option (Int) := slices_IndexFunc_int_int.l0 k l0 (l0.length : Int) 0
theorem slices_IndexFunc_int_int.mono_l : ∀ k, (∀ y0 y1 y2, LeO (slices_IndexFunc_int_int.l0 k y0 y1 y2) (slices_IndexFunc_int_int.l0 (k + 1) y0 y1 y2))
 | 0 => fun _ _ _ r h => by simp [slices_IndexFunc_int_int.l0] at h
 | k + 1 => by
  have ih0 := slices_IndexFunc_int_int.mono_l k
  ·intro y0 y1 y2
   unfold slices_IndexFunc_int_int.l0
   repeat' first
   | (with_reducible exact ih0 _ _ _)
   | (with_reducible exact LeO.refl _)
   | (with_reducible exact LeO.none _)
   | (with_reducible refine LeO.ite ?_ ?_)
   | (with_reducible refine LeO.bind ?_ (fun _ => ?_))
   | exact ih0 _ _ _
   | exact LeO.none _
   | refine LeO.ite ?_ ?_
   | refine LeO.bind ?_ (fun _ => ?_)
theorem slices_IndexFunc_int_int.mono : ∀ a0 k, LeO (slices_IndexFunc_int_int.f k a0) (slices_IndexFunc_int_int.f (k + 1) a0) := by
 intro a0 k
 have ih0 := slices_IndexFunc_int_int.mono_l k
 unfold slices_IndexFunc_int_int.f
 repeat' first
   | (with_reducible exact ih0 _ _ _)
   | (with_reducible exact LeO.refl _)
   | (with_reducible exact LeO.none _)
   | (with_reducible refine LeO.ite ?_ ?_)
   | (with_reducible refine LeO.bind ?_ (fun _ => ?_))
   | exact ih0 _ _ _
   | exact LeO.none _
   | refine LeO.ite ?_ ?_
   | refine LeO.bind ?_ (fun _ => ?_)
set_option maxHeartbeats 8000000 in
set_option maxRecDepth 100000 in
theorem slices_IndexFunc_int_int.calls (k : Nat) (A0 : Option Addr) (c0 : Nat) (l0 : List Int)  (r : Int) (w : World) (hr0 : Kd.C (Kd.int .i64) w A0 l0.length l0) (hc0 : l0.length ≤ c0) (h : slices_IndexFunc_int_int.f k l0 = some r) :
  Calls Try.prog 141 #[.slice A0 l0.length c0, .func (.func 118) #[] #[]] w fun e w' => e = .returned (.int .i64 r) ∧ Below w.heap.size w w' := by
 have HR0 := asd hr0
 have HC0 := asd hc0
 clear hr0 hc0
 have HB := asd (Below.refl w.heap.size w)
 have H : (slices_IndexFunc_int_int.l0 k l0 (l0.length : Int) 0) = some r := h
 clear h
 have H' := asd H
 clear H
 go_enter Try.func141, Try.ntmps141
 go_wp2
 go_loopg [8] k (fun kq v8 w' => ∃ (x8_1 : Int), v8 = .int .i64 x8_1 ∧ Aside0 (slices_IndexFunc_int_int.l0 kq l0 (l0.length : Int) x8_1 = some r) ∧ Aside0 (kq ≤ k) ∧ Aside0 (Below w.heap.size w w'))
 case atStart => exact ⟨(0), (by first | rfl | (simp; done) | (simp [*]; done)), H', ⟨Nat.le_refl _⟩, ⟨by repeat (first | (with_reducible first | exact HB.out | apply wa | apply wn | apply wd) | exact HB.out)⟩⟩
 case round =>
  clear H'
  try clear c1
  try clear p2
  obtain ⟨x8_1, rfl, HA, HK1, HB⟩ := hrel
  cases gk with
  | zero => exact absurd HA.out (by simp [slices_IndexFunc_int_int.l0])
  | succ k1 =>
   have H := HA.out
   clear HA
   simp only [slices_IndexFunc_int_int.l0] at H
   by_cases c3 : x8_1 < (l0.length : Int)
   ·rw [if_pos c3] at H
    have c3b0 : decide (x8_1 < (l0.length : Int)) = true := decide_eq_true c3
    clear c3
    by_cases c4 : 0 ≤ x8_1
    ·rw [if_pos c4] at H
     have c4b0 : decide (0 ≤ x8_1) = true := decide_eq_true c4
     clear c4
     by_cases c5 : x8_1 < (l0.length : Int)
     ·rw [if_pos c5] at H
      have c5b0 : decide (x8_1 < (l0.length : Int)) = true := decide_eq_true c5
      clear c5
      replace H := Option.bind_eq_some_iff.mp H
      obtain ⟨t123, A60, H⟩ := H
      replace H : (if t123 = true then (some x8_1) else (slices_IndexFunc_int_int.l0 k1 l0 (l0.length : Int) (wrap64 (x8_1 + 1)))) = some r := H
      have A6 := asd A60
      clear A60
      by_cases c7 : t123 = true
      ·subst c7
       have H1 : (some x8_1) = some r := by rw [if_pos rfl] at H; exact H
       clear H
       have H := H1
       clear H1
       obtain rfl := Option.some.inj H
       have p122 : 0 ≤ (x8_1 : Int) := of_decide_eq_true (by assumption)
       have q122 : x8_1 < (l0.length : Int) := of_decide_eq_true (by assumption)
       obtain ⟨ad122, e122, hx122_0⟩ := Kd.at_int HR0.out x8_1 p122 q122
       cases e122
       replace hx122_0 := (HB.out.cell (World.block_lt_of_cell? w _ hx122_0)).trans hx122_0
       replace p122 := eq_true p122
       replace q122 := eq_true q122
       go_wp2_with (first | (go_at_call 118; (with_reducible refine (pack_odd_1.calls (rd l0 x8_1) true _ A6.out).mono ?_); rintro e w' ⟨rfl, ⟨nd, rfl⟩⟩))
       go_ret
       exact ⟨by first | rfl | (simp [*] <;> rfl), by repeat (first | (with_reducible first | exact HB.out | apply wa | apply wn | apply wd) | exact HB.out)⟩
      ·replace c7 := Bool.eq_false_iff.mpr c7
       subst c7
       have H1 : (slices_IndexFunc_int_int.l0 k1 l0 (l0.length : Int) (wrap64 (x8_1 + 1))) = some r := by rw [if_neg (show ¬ (false = true) by decide)] at H; exact H
       clear H
       have H := H1
       clear H1
       have H' := asd H
       clear H
       have p122 : 0 ≤ (x8_1 : Int) := of_decide_eq_true (by assumption)
       have q122 : x8_1 < (l0.length : Int) := of_decide_eq_true (by assumption)
       obtain ⟨ad122, e122, hx122_0⟩ := Kd.at_int HR0.out x8_1 p122 q122
       cases e122
       replace hx122_0 := (HB.out.cell (World.block_lt_of_cell? w _ hx122_0)).trans hx122_0
       replace p122 := eq_true p122
       replace q122 := eq_true q122
       go_wp2_with (first | (go_at_call 118; (with_reducible refine (pack_odd_1.calls (rd l0 x8_1) false _ A6.out).mono ?_); rintro e w' ⟨rfl, ⟨nd, rfl⟩⟩))
       go_roundg k1
       case measure => have := HK1.out; omega
       case rel => exact ⟨(wrap64 (x8_1 + 1)), (by first | rfl | (simp; done) | (simp [*]; done)), H', ⟨by have := HK1.out; omega⟩, ⟨by repeat (first | (with_reducible first | exact HB.out | apply wa | apply wn | apply wd) | exact HB.out)⟩⟩
     ·rw [if_neg c5] at H
      exact absurd H (by simp)
    ·rw [if_neg c4] at H
     exact absurd H (by simp)
   ·rw [if_neg c3] at H
    have c3b0 : decide (x8_1 < (l0.length : Int)) = false := decide_eq_false c3
    clear c3
    obtain rfl := Option.some.inj H
    go_wp2
    go_ret
    exact ⟨by first | rfl | (simp [*] <;> rfl), by repeat (first | (with_reducible first | exact HB.out | apply wa | apply wn | apply wd) | exact HB.out)⟩
end Go.Proofs.Ytalimpniimgheaa.Fn
namespace Go.Proofs.Ytalimpniimgheaa.Fn
open Go.RowKit Go.Proofs.YtalimpniimgheaaW.PrintWords Go.Proofs.YtalimpniimgheaaW.PrintLast Go.Proofs.YtalimpniimgheaaW.PrintMore
attribute [local go_sem] max2_int min2_int max_two min_two max_three min_three max_four min_four
set_option linter.unusedVariables false
set_option linter.unusedSimpArgs false
def slices_ContainsFunc_int_int.f (k : Nat) (l0 : List Int)  : Option (Bool) := (slices_IndexFunc_int_int.f k l0).bind fun t124 => (some (decide (t124 ≥ 0)))
theorem slices_ContainsFunc_int_int.mono : ∀ a0 k, LeO (slices_ContainsFunc_int_int.f k a0) (slices_ContainsFunc_int_int.f (k + 1) a0) := by
 intro a0 k
 unfold slices_ContainsFunc_int_int.f
 repeat' first
   | (with_reducible exact slices_IndexFunc_int_int.mono _ _)
   | (with_reducible exact LeO.refl _)
   | (with_reducible exact LeO.none _)
   | (with_reducible refine LeO.ite ?_ ?_)
   | (with_reducible refine LeO.bind ?_ (fun _ => ?_))
   | exact slices_IndexFunc_int_int.mono _ _
   | exact LeO.none _
   | refine LeO.ite ?_ ?_
   | refine LeO.bind ?_ (fun _ => ?_)
set_option maxHeartbeats 8000000 in
set_option maxRecDepth 100000 in
theorem slices_ContainsFunc_int_int.calls (k : Nat) (A0 : Option Addr) (c0 : Nat) (l0 : List Int)  (r : Bool) (w : World) (hr0 : Kd.C (Kd.int .i64) w A0 l0.length l0) (hc0 : l0.length ≤ c0) (h : slices_ContainsFunc_int_int.f k l0 = some r) :
  Calls Try.prog 117 #[.slice A0 l0.length c0, .func (.func 118) #[] #[]] w fun e w' => e = .returned (.bool r) ∧ Below w.heap.size w w' := by
 have HR0 := asd hr0
 have HC0 := asd hc0
 clear hr0 hc0
 have HB := asd (Below.refl w.heap.size w)
 have H : ((slices_IndexFunc_int_int.f k l0).bind fun t124 => (some (decide (t124 ≥ 0)))) = some r := h
 clear h
 replace H := Option.bind_eq_some_iff.mp H
 obtain ⟨t124, A30, H⟩ := H
 replace H : (some (decide (t124 ≥ 0))) = some r := H
 have A3 := asd A30
 clear A30
 obtain rfl := Option.some.inj H
 go_enter Try.func117, Try.ntmps117
 go_wp2_with (first | ((with_reducible refine gate_callee (f := 141) rfl ?_); refine goesL_ (some 7) rfl rfl Try.func141 (by kernel_rfl) rfl #[.slice A0 l0.length c0, .func (.func 118) #[] #[]] rfl (by (try simp only [List.map_toArray, List.map_cons, List.map_nil]); first | done | rfl | (simp only [List.length_drop, List.length_take]; rfl)) ?_; (with_reducible refine (slices_IndexFunc_int_int.calls k _ _ l0  t124 _ ?side1 ?side2 A3.out).mono ?_); (case side1 => repeat (first | exact HR0.out | (with_reducible refine Kd.C_alloc ?_ _) | (with_reducible refine Kd.C_drewN ?_ _) | (with_reducible refine Kd.C_drew ?_))); (case side2 => exact HC0.out); rintro e w4 ⟨rfl, hb⟩; refine ⟨_, rfl, ?_⟩; have n0_ := asd (below_step (by repeat (first | (with_reducible first | exact HB.out | apply wa | apply wn | apply wd) | exact HB.out)) hb); clear HB; have HB := n0_; clear n0_; (try clear hb); (try clear hb2); (try clear hk); (try clear hi)))
 go_ret
 exact ⟨by first | rfl | (simp [*] <;> rfl), by repeat (first | (with_reducible first | exact HB.out | apply wa | apply wn | apply wd) | exact HB.out)⟩
end Go.Proofs.Ytalimpniimgheaa.Fn
namespace Go.Proofs.Ytalimpniimgheaa.Fn
open Go.RowKit Go.Proofs.YtalimpniimgheaaW.PrintWords Go.Proofs.YtalimpniimgheaaW.PrintLast Go.Proofs.YtalimpniimgheaaW.PrintMore
attribute [local go_sem] max2_int min2_int max_two min_two max_three min_three max_four min_four
set_option linter.unusedVariables false
set_option linter.unusedSimpArgs false
def pack_odd.f (k : Nat) (a0_0 : Int) (a0_1 : Int) (a0_2 : Int) (a0_3 : Int) : Option (Bool) := if a0_1 < 0 then (some true) else (if a0_1 ≥ 16 then (some true) else ((slices_ContainsFunc_int_int.f k (([a0_0, a0_2, a0_3] : List Int))).bind fun t129 => (some t129)))
theorem pack_odd.mono : ∀ a0 a1 a2 a3 k, LeO (pack_odd.f k a0 a1 a2 a3) (pack_odd.f (k + 1) a0 a1 a2 a3) := by
 intro a0 a1 a2 a3 k
 unfold pack_odd.f
 repeat' first
   | (with_reducible exact slices_ContainsFunc_int_int.mono _ _)
   | (with_reducible exact LeO.refl _)
   | (with_reducible exact LeO.none _)
   | (with_reducible refine LeO.ite ?_ ?_)
   | (with_reducible refine LeO.bind ?_ (fun _ => ?_))
   | exact slices_ContainsFunc_int_int.mono _ _
   | exact LeO.none _
   | refine LeO.ite ?_ ?_
   | refine LeO.bind ?_ (fun _ => ?_)
set_option maxHeartbeats 8000000 in
set_option maxRecDepth 100000 in
theorem pack_odd.calls (k : Nat) (a0_0 : Int) (a0_1 : Int) (a0_2 : Int) (a0_3 : Int) (r : Bool) (w : World) (h : pack_odd.f k a0_0 a0_1 a0_2 a0_3 = some r) :
  Calls Try.prog 89 #[.agg #[.int .i64 a0_0, .int .i64 a0_1, .int .i64 a0_2, .int .i64 a0_3]] w fun e w' => e = .returned (.bool r) ∧ Below w.heap.size w w' := by
 have hu65 := Try.underlying65
 have HB := asd (Below.refl w.heap.size w)
 have H : (if a0_1 < 0 then (some true) else (if a0_1 ≥ 16 then (some true) else ((slices_ContainsFunc_int_int.f k (([a0_0, a0_2, a0_3] : List Int))).bind fun t129 => (some t129)))) = some r := h
 clear h
 by_cases c2 : a0_1 < 0
 ·rw [if_pos c2] at H
  have c2b0 : decide (a0_1 < 0) = true := decide_eq_true c2
  clear c2
  obtain rfl := Option.some.inj H
  go_enter Try.func89, Try.ntmps89
  go_wp2_with (first | ((with_reducible refine gate_dst (N := 1) rfl ?_); refine box_event ?hg (N := 1) ?hd (cs := #[.int .i64 a0_0, .int .i64 a0_1, .int .i64 a0_2, .int .i64 a0_3]) (t := 65) ?hr ?_; (case hd => rfl); (case hg => rfl); (case hr => first | (go_simp; done) | (go_simp; rfl)); intro gb125 hg w3 hbox hb; have n0_ := asd (below_step (by repeat (first | (with_reducible first | exact HB.out | apply wa | apply wn | apply wd) | exact HB.out)) hb); have n1_ := asd (hbox); have n2_ := asd ((by rw [hg]; exact (below_size (by repeat (first | (with_reducible first | exact HB.out | apply wa | apply wn | apply wd) | exact HB.out))) : w.heap.size ≤ gb125)); have n3_ := asd ((by rw [hg]; exact (below_size (by repeat (first | (with_reducible first | exact HB.out | apply wa | apply wn | apply wd) | exact HB.out))) : w.heap.size ≤ gb125)); clear HB; have HB := n0_; have BK125 := n1_; have GW125 := n2_; have GE125 := n3_; clear n0_ n1_ n2_ n3_; clear hb hbox hg; have hcz4_0 : w3.cell? ⟨gb125, 0, none⟩ = some (.int .i64 a0_0) := (blk_cell BK125.out 0).trans rfl; have hcz4_1 : w3.cell? ⟨gb125, 1, none⟩ = some (.int .i64 a0_1) := (blk_cell BK125.out 1).trans rfl; have hcz4_2 : w3.cell? ⟨gb125, 2, none⟩ = some (.int .i64 a0_2) := (blk_cell BK125.out 2).trans rfl; have hcz4_3 : w3.cell? ⟨gb125, 3, none⟩ = some (.int .i64 a0_3) := (blk_cell BK125.out 3).trans rfl; have hfz4_0 := blk_frozen BK125.out 0; have hfz4_1 := blk_frozen BK125.out 1; have hfz4_2 := blk_frozen BK125.out 2; have hfz4_3 := blk_frozen BK125.out 3))
  go_ret
  exact ⟨by first | rfl | (simp [*] <;> rfl), by repeat (first | (with_reducible first | exact HB.out | apply wa | apply wn | apply wd | refine ws ?_ GE125.out) | exact HB.out)⟩
 ·rw [if_neg c2] at H
  have c2b0 : decide (a0_1 < 0) = false := decide_eq_false c2
  clear c2
  by_cases c5 : a0_1 ≥ 16
  ·rw [if_pos c5] at H
   have c5b0 : decide (16 ≤ a0_1) = true := decide_eq_true c5
   clear c5
   obtain rfl := Option.some.inj H
   go_enter Try.func89, Try.ntmps89
   go_wp2_with (first | ((with_reducible refine gate_dst (N := 1) rfl ?_); refine box_event ?hg (N := 1) ?hd (cs := #[.int .i64 a0_0, .int .i64 a0_1, .int .i64 a0_2, .int .i64 a0_3]) (t := 65) ?hr ?_; (case hd => rfl); (case hg => rfl); (case hr => first | (go_simp; done) | (go_simp; rfl)); intro gb125 hg w6 hbox hb; have n0_ := asd (below_step (by repeat (first | (with_reducible first | exact HB.out | apply wa | apply wn | apply wd) | exact HB.out)) hb); have n1_ := asd (hbox); have n2_ := asd ((by rw [hg]; exact (below_size (by repeat (first | (with_reducible first | exact HB.out | apply wa | apply wn | apply wd) | exact HB.out))) : w.heap.size ≤ gb125)); have n3_ := asd ((by rw [hg]; exact (below_size (by repeat (first | (with_reducible first | exact HB.out | apply wa | apply wn | apply wd) | exact HB.out))) : w.heap.size ≤ gb125)); clear HB; have HB := n0_; have BK125 := n1_; have GW125 := n2_; have GE125 := n3_; clear n0_ n1_ n2_ n3_; clear hb hbox hg; have hcz7_0 : w6.cell? ⟨gb125, 0, none⟩ = some (.int .i64 a0_0) := (blk_cell BK125.out 0).trans rfl; have hcz7_1 : w6.cell? ⟨gb125, 1, none⟩ = some (.int .i64 a0_1) := (blk_cell BK125.out 1).trans rfl; have hcz7_2 : w6.cell? ⟨gb125, 2, none⟩ = some (.int .i64 a0_2) := (blk_cell BK125.out 2).trans rfl; have hcz7_3 : w6.cell? ⟨gb125, 3, none⟩ = some (.int .i64 a0_3) := (blk_cell BK125.out 3).trans rfl; have hfz7_0 := blk_frozen BK125.out 0; have hfz7_1 := blk_frozen BK125.out 1; have hfz7_2 := blk_frozen BK125.out 2; have hfz7_3 := blk_frozen BK125.out 3))
   go_ret
   exact ⟨by first | rfl | (simp [*] <;> rfl), by repeat (first | (with_reducible first | exact HB.out | apply wa | apply wn | apply wd | refine ws ?_ GE125.out) | exact HB.out)⟩
  ·rw [if_neg c5] at H
   have c5b0 : decide (16 ≤ a0_1) = false := decide_eq_false c5
   clear c5
   obtain ⟨y126, hy126⟩ : ∃ y_ : List Int, y_ = (([a0_0, a0_2, a0_3] : List Int)) := ⟨_, rfl⟩
   replace H : ((slices_ContainsFunc_int_int.f k y126).bind fun t129 => (some t129)) = some r := by first | (rw [hy126]; with_reducible exact H) | (have H2_ := (Option.bind_some _ _).symm.trans H; rw [hy126]; with_reducible exact H2_) | (have H2_ := (Option.bind_some _ _).symm.trans H; with_reducible exact H2_) | with_reducible exact H | (rw [hy126]; exact H) | exact H
   have Ny126 := asd hy126
   clear hy126
   replace H := Option.bind_eq_some_iff.mp H
   obtain ⟨t129, A80, H⟩ := H
   replace H : (some t129) = some r := H
   have A8 := asd A80
   clear A80
   obtain rfl := Option.some.inj H
   go_enter Try.func89, Try.ntmps89
   go_wp2_with (first | ((with_reducible refine gate_dst (N := 1) rfl ?_); refine box_event ?hg (N := 1) ?hd (cs := #[.int .i64 a0_0, .int .i64 a0_1, .int .i64 a0_2, .int .i64 a0_3]) (t := 65) ?hr ?_; (case hd => rfl); (case hg => rfl); (case hr => first | (go_simp; done) | (go_simp; rfl)); intro gb125 hg w9 hbox hb; have n0_ := asd (below_step (by repeat (first | (with_reducible first | exact HB.out | apply wa | apply wn | apply wd) | exact HB.out)) hb); have n1_ := asd (hbox); have n2_ := asd ((by rw [hg]; exact (below_size (by repeat (first | (with_reducible first | exact HB.out | apply wa | apply wn | apply wd) | exact HB.out))) : w.heap.size ≤ gb125)); have n3_ := asd ((by rw [hg]; exact (below_size (by repeat (first | (with_reducible first | exact HB.out | apply wa | apply wn | apply wd) | exact HB.out))) : w.heap.size ≤ gb125)); clear HB; have HB := n0_; have BK125 := n1_; have GW125 := n2_; have GE125 := n3_; clear n0_ n1_ n2_ n3_; clear hb hbox hg; have hcz10_0 : w9.cell? ⟨gb125, 0, none⟩ = some (.int .i64 a0_0) := (blk_cell BK125.out 0).trans rfl; have hcz10_1 : w9.cell? ⟨gb125, 1, none⟩ = some (.int .i64 a0_1) := (blk_cell BK125.out 1).trans rfl; have hcz10_2 : w9.cell? ⟨gb125, 2, none⟩ = some (.int .i64 a0_2) := (blk_cell BK125.out 2).trans rfl; have hcz10_3 : w9.cell? ⟨gb125, 3, none⟩ = some (.int .i64 a0_3) := (blk_cell BK125.out 3).trans rfl; have hfz10_0 := blk_frozen BK125.out 0; have hfz10_1 := blk_frozen BK125.out 1; have hfz10_2 := blk_frozen BK125.out 2; have hfz10_3 := blk_frozen BK125.out 3) | ((with_reducible refine gate_dst (N := 17) rfl ?_); refine Kd.R_lit (Kd.int .i64) _ 3 ?hg (N := 17) ?hd (xs := ([a0_0, a0_2, a0_3] : List Int)) (inner := [.int .i64 a0_0, .int .i64 a0_2, .int .i64 a0_3]) (ok := fun _ => True) (okp := fun _ => True) ?hr ?hp (fun _ hk => hk) trivial (Below.refl _ _) (Nat.le_refl _) (by simp) ?_; (case hd => rfl); (case hg => rfl); (case hr => first | (go_simp; done) | (go_simp; rfl)); (case hp => exact (Reps.one (show Kd.M (Kd.int .i64) _ _ _ a0_0 [.int .i64 a0_0] from rfl) (Reps.one (show Kd.M (Kd.int .i64) _ _ _ a0_2 [.int .i64 a0_2] from rfl) (Reps.one (show Kd.M (Kd.int .i64) _ _ _ a0_3 [.int .i64 a0_3] from rfl) (Reps.none _ _))))); intro v127 w11 ho12 hb hg_ hnew_; clear hg_ hnew_; (first | rw [← Ny126.out] at ho12 | (simp only [Int.reduceToNat] at ho12; rw [← Ny126.out] at ho12)); have n0_ := asd (Kd.R_lower ho12 (below_size (by repeat (first | (with_reducible first | exact HB.out | apply wa | apply wn | apply wd | refine ws ?_ GE125.out) | exact HB.out)))); have n1_ := asd (blk_below (g := gb125) (o := .cells #[.int .i64 a0_0, .int .i64 a0_1, .int .i64 a0_2, .int .i64 a0_3] 65 (0, 0)) (by (with_reducible repeat first | apply bn | apply bd | apply ba); exact BK125.out) hb); have n2_ := asd (below_step (by repeat (first | (with_reducible first | exact HB.out | apply wa | apply wn | apply wd | refine ws ?_ GE125.out) | exact HB.out)) hb); clear BK125; clear HB; have HO128 := n0_; have BK125 := n1_; have HB := n2_; clear n0_ n1_ n2_; clear hb ho12; obtain ⟨Ao13, co13, eo13⟩ := Kd.R_slice HO128.out; subst eo13) | ((with_reducible refine gate_callee (f := 117) rfl ?_); refine goesL_ (some 18) rfl rfl Try.func117 (by kernel_rfl) rfl #[.slice Ao13 y126.length co13, .func (.func 118) #[] #[]] rfl (by (try simp only [List.map_toArray, List.map_cons, List.map_nil]); first | done | rfl | (simp only [List.length_drop, List.length_take]; rfl)) ?_; (with_reducible refine (slices_ContainsFunc_int_int.calls k _ _ y126  t129 _ ?side1 ?side2 A8.out).mono ?_); (case side1 => repeat (first | exact (Kd.R_reads' HO128.out).2.2 | (with_reducible refine Kd.C_alloc ?_ _) | (with_reducible refine Kd.C_drewN ?_ _) | (with_reducible refine Kd.C_drew ?_))); (case side2 => exact (Kd.R_reads' HO128.out).2.1); rintro e w14 ⟨rfl, hb⟩; refine ⟨_, rfl, ?_⟩; have n0_ := asd (Kd.R_below (by (with_reducible repeat (first | apply Kd.R_alloc | apply Kd.R_drewN | apply Kd.R_drew)); exact HO128.out) hb); have n1_ := asd (blk_below (g := gb125) (o := .cells #[.int .i64 a0_0, .int .i64 a0_1, .int .i64 a0_2, .int .i64 a0_3] 65 (0, 0)) (by (with_reducible repeat first | apply bn | apply bd | apply ba); exact BK125.out) hb); have n2_ := asd (below_step (by repeat (first | (with_reducible first | exact HB.out | apply wa | apply wn | apply wd | refine ws ?_ GE125.out) | exact HB.out)) hb); clear HO128; clear BK125; clear HB; have HO128 := n0_; have BK125 := n1_; have HB := n2_; clear n0_ n1_ n2_; (try clear hb); (try clear hb2); (try clear hk); (try clear hi)))
   go_ret
   exact ⟨by first | rfl | (simp [*] <;> rfl), by repeat (first | (with_reducible first | exact HB.out | apply wa | apply wn | apply wd | refine ws ?_ GE125.out) | exact HB.out)⟩
end Go.Proofs.Ytalimpniimgheaa.Fn
namespace Go.Proofs.Ytalimpniimgheaa.Fn
open Go.RowKit Go.Proofs.YtalimpniimgheaaW.PrintWords Go.Proofs.YtalimpniimgheaaW.PrintLast Go.Proofs.YtalimpniimgheaaW.PrintMore
attribute [local go_sem] max2_int min2_int max_two min_two max_three min_three max_four min_four
set_option linter.unusedVariables false
set_option linter.unusedSimpArgs false
def journal_Entry_109.l0 : Nat → List (S65) → Int → Int → Option (Int)
 | 0, _, _, _ => none
 | k + 1, x0, x7, x8 => if x8 < x7 then (if 0 ≤ x8 then (if x8 < (x0.length : Int) then ((pack_odd.f k ((rd_T65 x0 x8).f0) ((rd_T65 x0 x8).f1) ((rd_T65 x0 x8).f2) ((rd_T65 x0 x8).f3)).bind fun t131 => (if t131 = true then (some x8) else (journal_Entry_109.l0 k x0 x7 (wrap64 (x8 + 1))))) else (none)) else (none)) else (some (-1))
def journal_Entry_109.f (k : Nat) (l0 : List (S65))  : Option (Int) := journal_Entry_109.l0 k l0 (l0.length : Int) 0
theorem journal_Entry_109.mono_l : ∀ k, (∀ y0 y1 y2, LeO (journal_Entry_109.l0 k y0 y1 y2) (journal_Entry_109.l0 (k + 1) y0 y1 y2))
 | 0 => fun _ _ _ r h => by simp [journal_Entry_109.l0] at h
 | k + 1 => by
  have ih0 := journal_Entry_109.mono_l k
  ·intro y0 y1 y2
   unfold journal_Entry_109.l0
   repeat' first
   | (with_reducible exact ih0 _ _ _)
   | (with_reducible exact pack_odd.mono _ _ _ _ _)
   | (with_reducible exact LeO.refl _)
   | (with_reducible exact LeO.none _)
   | (with_reducible refine LeO.ite ?_ ?_)
   | (with_reducible refine LeO.bind ?_ (fun _ => ?_))
   | exact ih0 _ _ _
   | exact pack_odd.mono _ _ _ _ _
   | exact LeO.none _
   | refine LeO.ite ?_ ?_
   | refine LeO.bind ?_ (fun _ => ?_)
set_option maxHeartbeats 8000000 in
set_option maxRecDepth 100000 in
theorem journal_Entry_109.calls (k : Nat) (A0 : Option Addr) (c0 : Nat) (l0 : List (S65))  (r : Int) (w : World) (hr0 : Kd.C k65 w A0 l0.length l0) (hc0 : l0.length ≤ c0) (h : journal_Entry_109.f k l0 = some r) :
  Calls Try.prog 109 #[.slice A0 l0.length c0, .func (.func 89) #[] #[]] w fun e w' => e = .returned (.int .i64 r) ∧ Below w.heap.size w w' := by
 have hu65 := Try.underlying65
 have HR0 := asd hr0
 have HC0 := asd hc0
 clear hr0 hc0
 have HB := asd (Below.refl w.heap.size w)
 have H : (journal_Entry_109.l0 k l0 (l0.length : Int) 0) = some r := h
 clear h
 have H' := asd H
 clear H
 go_enter Try.func109, Try.ntmps109
 go_wp2
 go_loopg [8] k (fun kq v8 w' => ∃ (x8_1 : Int), v8 = .int .i64 x8_1 ∧ Aside0 (journal_Entry_109.l0 kq l0 (l0.length : Int) x8_1 = some r) ∧ Aside0 (kq ≤ k) ∧ Aside0 (Below w.heap.size w w'))
 case atStart => exact ⟨(0), (by first | rfl | (simp; done) | (simp [*]; done)), H', ⟨Nat.le_refl _⟩, ⟨by repeat (first | (with_reducible first | exact HB.out | apply wa | apply wn | apply wd) | exact HB.out)⟩⟩
 case round =>
  clear H'
  try clear c1
  try clear p2
  obtain ⟨x8_1, rfl, HA, HK1, HB⟩ := hrel
  cases gk with
  | zero => exact absurd HA.out (by simp [journal_Entry_109.l0])
  | succ k1 =>
   have H := HA.out
   clear HA
   simp only [journal_Entry_109.l0] at H
   by_cases c3 : x8_1 < (l0.length : Int)
   ·rw [if_pos c3] at H
    have c3b0 : decide (x8_1 < (l0.length : Int)) = true := decide_eq_true c3
    clear c3
    by_cases c4 : 0 ≤ x8_1
    ·rw [if_pos c4] at H
     have c4b0 : decide (0 ≤ x8_1) = true := decide_eq_true c4
     clear c4
     by_cases c5 : x8_1 < (l0.length : Int)
     ·rw [if_pos c5] at H
      have c5b0 : decide (x8_1 < (l0.length : Int)) = true := decide_eq_true c5
      clear c5
      replace H := Option.bind_eq_some_iff.mp H
      obtain ⟨t131, A60, H⟩ := H
      replace H : (if t131 = true then (some x8_1) else (journal_Entry_109.l0 k1 l0 (l0.length : Int) (wrap64 (x8_1 + 1)))) = some r := H
      have A6 := asd A60
      clear A60
      by_cases c7 : t131 = true
      ·subst c7
       have H1 : (some x8_1) = some r := by rw [if_pos rfl] at H; exact H
       clear H
       have H := H1
       clear H1
       obtain rfl := Option.some.inj H
       have p130 : 0 ≤ (x8_1 : Int) := of_decide_eq_true (by assumption)
       have q130 : x8_1 < (l0.length : Int) := of_decide_eq_true (by assumption)
       obtain ⟨ad130, e130, hx130_0, hx130_1, hx130_2, hx130_3⟩ := at_T65 HR0.out x8_1 p130 q130
       cases e130
       replace hx130_0 := (HB.out.cell (World.block_lt_of_cell? w _ hx130_0)).trans hx130_0
       replace hx130_1 := (HB.out.cell (World.block_lt_of_cell? w _ hx130_1)).trans hx130_1
       replace hx130_2 := (HB.out.cell (World.block_lt_of_cell? w _ hx130_2)).trans hx130_2
       replace hx130_3 := (HB.out.cell (World.block_lt_of_cell? w _ hx130_3)).trans hx130_3
       replace p130 := eq_true p130
       replace q130 := eq_true q130
       go_wp2_with (first | (go_at_call 89; (with_reducible refine (pack_odd.calls k1 ((rd_T65 l0 x8_1).f0) ((rd_T65 l0 x8_1).f1) ((rd_T65 l0 x8_1).f2) ((rd_T65 l0 x8_1).f3) true _ A6.out).mono ?_); rintro e w8 ⟨rfl, hb⟩; have n0_ := asd (below_step (by repeat (first | (with_reducible first | exact HB.out | apply wa | apply wn | apply wd) | exact HB.out)) hb); clear HB; have HB := n0_; clear n0_; (try clear hb); (try clear hb2); (try clear hk); (try clear hi)))
       go_ret
       exact ⟨by first | rfl | (simp [*] <;> rfl), by repeat (first | (with_reducible first | exact HB.out | apply wa | apply wn | apply wd) | exact HB.out)⟩
      ·replace c7 := Bool.eq_false_iff.mpr c7
       subst c7
       have H1 : (journal_Entry_109.l0 k1 l0 (l0.length : Int) (wrap64 (x8_1 + 1))) = some r := by rw [if_neg (show ¬ (false = true) by decide)] at H; exact H
       clear H
       have H := H1
       clear H1
       have H' := asd H
       clear H
       have p130 : 0 ≤ (x8_1 : Int) := of_decide_eq_true (by assumption)
       have q130 : x8_1 < (l0.length : Int) := of_decide_eq_true (by assumption)
       obtain ⟨ad130, e130, hx130_0, hx130_1, hx130_2, hx130_3⟩ := at_T65 HR0.out x8_1 p130 q130
       cases e130
       replace hx130_0 := (HB.out.cell (World.block_lt_of_cell? w _ hx130_0)).trans hx130_0
       replace hx130_1 := (HB.out.cell (World.block_lt_of_cell? w _ hx130_1)).trans hx130_1
       replace hx130_2 := (HB.out.cell (World.block_lt_of_cell? w _ hx130_2)).trans hx130_2
       replace hx130_3 := (HB.out.cell (World.block_lt_of_cell? w _ hx130_3)).trans hx130_3
       replace p130 := eq_true p130
       replace q130 := eq_true q130
       go_wp2_with (first | (go_at_call 89; (with_reducible refine (pack_odd.calls k1 ((rd_T65 l0 x8_1).f0) ((rd_T65 l0 x8_1).f1) ((rd_T65 l0 x8_1).f2) ((rd_T65 l0 x8_1).f3) false _ A6.out).mono ?_); rintro e w9 ⟨rfl, hb⟩; have n0_ := asd (below_step (by repeat (first | (with_reducible first | exact HB.out | apply wa | apply wn | apply wd) | exact HB.out)) hb); clear HB; have HB := n0_; clear n0_; (try clear hb); (try clear hb2); (try clear hk); (try clear hi)))
       go_roundg k1
       case measure => have := HK1.out; omega
       case rel => exact ⟨(wrap64 (x8_1 + 1)), (by first | rfl | (simp; done) | (simp [*]; done)), H', ⟨by have := HK1.out; omega⟩, ⟨by repeat (first | (with_reducible first | exact HB.out | apply wa | apply wn | apply wd) | exact HB.out)⟩⟩
     ·rw [if_neg c5] at H
      exact absurd H (by simp)
    ·rw [if_neg c4] at H
     exact absurd H (by simp)
   ·rw [if_neg c3] at H
    have c3b0 : decide (x8_1 < (l0.length : Int)) = false := decide_eq_false c3
    clear c3
    obtain rfl := Option.some.inj H
    go_wp2
    go_ret
    exact ⟨by first | rfl | (simp [*] <;> rfl), by repeat (first | (with_reducible first | exact HB.out | apply wa | apply wn | apply wd) | exact HB.out)⟩
end Go.Proofs.Ytalimpniimgheaa.Fn
namespace Go.Proofs.Ytalimpniimgheaa.Fn
open Go.RowKit Go.Proofs.YtalimpniimgheaaW.PrintWords Go.Proofs.YtalimpniimgheaaW.PrintLast Go.Proofs.YtalimpniimgheaaW.PrintMore
attribute [local go_sem] max2_int min2_int max_two min_two max_three min_three max_four min_four
set_option linter.unusedVariables false
set_option linter.unusedSimpArgs false
def journal_Entry_88.f (k : Nat) (l0 : List (S65))  : Option (Bool) := (journal_Entry_109.f k l0).bind fun t344 => (some (decide (t344 ≥ 0)))
set_option maxHeartbeats 8000000 in
set_option maxRecDepth 100000 in
theorem journal_Entry_88.calls (k : Nat) (A0 : Option Addr) (c0 : Nat) (l0 : List (S65))  (r : Bool) (w : World) (hr0 : Kd.C k65 w A0 l0.length l0) (hc0 : l0.length ≤ c0) (h : journal_Entry_88.f k l0 = some r) :
  Calls Try.prog 88 #[.slice A0 l0.length c0, .func (.func 89) #[] #[]] w fun e w' => e = .returned (.bool r) ∧ Below w.heap.size w w' := by
 have HR0 := asd hr0
 have HC0 := asd hc0
 clear hr0 hc0
 have HB := asd (Below.refl w.heap.size w)
 have H : ((journal_Entry_109.f k l0).bind fun t344 => (some (decide (t344 ≥ 0)))) = some r := h
 clear h
 replace H := Option.bind_eq_some_iff.mp H
 obtain ⟨t344, A30, H⟩ := H
 replace H : (some (decide (t344 ≥ 0))) = some r := H
 have A3 := asd A30
 clear A30
 obtain rfl := Option.some.inj H
 go_enter Try.func88, Try.ntmps88
 go_wp2_with (first | ((with_reducible refine gate_callee (f := 109) rfl ?_); refine goesL_ (some 7) rfl rfl Try.func109 (by kernel_rfl) rfl #[.slice A0 l0.length c0, .func (.func 89) #[] #[]] rfl (by (try simp only [List.map_toArray, List.map_cons, List.map_nil]); first | done | rfl | (simp only [List.length_drop, List.length_take]; rfl)) ?_; (with_reducible refine (journal_Entry_109.calls k _ _ l0  t344 _ ?side1 ?side2 A3.out).mono ?_); (case side1 => repeat (first | exact HR0.out | (with_reducible refine Kd.C_alloc ?_ _) | (with_reducible refine Kd.C_drewN ?_ _) | (with_reducible refine Kd.C_drew ?_))); (case side2 => exact HC0.out); rintro e w4 ⟨rfl, hb⟩; refine ⟨_, rfl, ?_⟩; have n0_ := asd (below_step (by repeat (first | (with_reducible first | exact HB.out | apply wa | apply wn | apply wd) | exact HB.out)) hb); clear HB; have HB := n0_; clear n0_; (try clear hb); (try clear hb2); (try clear hk); (try clear hi)))
 go_ret
 exact ⟨by first | rfl | (simp [*] <;> rfl), by repeat (first | (with_reducible first | exact HB.out | apply wa | apply wn | apply wd) | exact HB.out)⟩
end Go.Proofs.Ytalimpniimgheaa.Fn
namespace Go.Proofs.Ytalimpniimgheaa.Fn
open Go.RowKit Go.Proofs.YtalimpniimgheaaW.PrintWords Go.Proofs.YtalimpniimgheaaW.PrintLast Go.Proofs.YtalimpniimgheaaW.PrintMore
attribute [local go_sem] max2_int min2_int max_two min_two max_three min_three max_four min_four
set_option linter.unusedVariables false
set_option linter.unusedSimpArgs false
def pack_Sum.l0 : Nat → Int → List Int → Int → Int → Option (Int)
 | 0, _, _, _, _ => none
 | k + 1, x3, x6, x7, x8 => if x8 < x7 then (if 0 ≤ x8 then (if x8 < (x6.length : Int) then (pack_Sum.l0 k (Int.tmod (wrap64 ((wrap64 ((wrap64 (31 * x3)) + (wrap64 (rd x6 x8)))) + 7)) 65521) x6 x7 (wrap64 (x8 + 1))) else (none)) else (none)) else (some x3)
def pack_Sum.f (k : Nat) (l0 : List Int) : Option (Int) := pack_Sum.l0 k 0 l0 (l0.length : Int) 0
set_option maxHeartbeats 8000000 in
set_option maxRecDepth 100000 in
theorem pack_Sum.calls (k : Nat) (A0 : Option Addr) (c0 : Nat) (l0 : List Int) (r : Int) (w : World) (hr0 : Kd.C (Kd.int .u8) w A0 l0.length l0) (hc0 : l0.length ≤ c0) (h : pack_Sum.f k l0 = some r) :
  Calls Try.prog 59 #[.slice A0 l0.length c0] w fun e w' => e = .returned (.int .i64 r) ∧ Drawn0 w w' := by
 have HR0 := asd hr0
 have HC0 := asd hc0
 clear hr0 hc0
 have H : (pack_Sum.l0 k 0 l0 (l0.length : Int) 0) = some r := h
 clear h
 have H' := asd H
 clear H
 go_enter Try.func59, Try.ntmps59
 go_wp2
 go_loopg [3, 8] k (fun kq v3 v8 w' => ∃ (x3_1 : Int) (x8_1 : Int), v3 = .int .i64 x3_1 ∧ v8 = .int .i64 x8_1 ∧ Aside0 (pack_Sum.l0 kq x3_1 l0 (l0.length : Int) x8_1 = some r) ∧ Aside0 (kq ≤ k) ∧ Drawn0 w w')
 case atStart => exact ⟨(0), (0), (by first | rfl | (simp; done) | (simp [*]; done)), (by first | rfl | (simp; done) | (simp [*]; done)), H', ⟨Nat.le_refl _⟩, by repeat (first | exact Drawn0.refl _ | apply Drawn0.step)⟩
 case round =>
  clear H'
  obtain ⟨x3_1, x8_1, rfl, rfl, HA, HK1, ⟨m1, rfl⟩⟩ := hrel
  cases gk with
  | zero => exact absurd HA.out (by simp [pack_Sum.l0])
  | succ k1 =>
   have H := HA.out
   clear HA
   simp only [pack_Sum.l0] at H
   by_cases c2 : x8_1 < (l0.length : Int)
   ·rw [if_pos c2] at H
    have c2b0 : decide (x8_1 < (l0.length : Int)) = true := decide_eq_true c2
    clear c2
    by_cases c3 : 0 ≤ x8_1
    ·rw [if_pos c3] at H
     have c3b0 : decide (0 ≤ x8_1) = true := decide_eq_true c3
     clear c3
     by_cases c4 : x8_1 < (l0.length : Int)
     ·rw [if_pos c4] at H
      have c4b0 : decide (x8_1 < (l0.length : Int)) = true := decide_eq_true c4
      clear c4
      have H' := asd H
      clear H
      have p343 : 0 ≤ (x8_1 : Int) := of_decide_eq_true (by assumption)
      have q343 : x8_1 < (l0.length : Int) := of_decide_eq_true (by assumption)
      obtain ⟨ad343, e343, hx343_0⟩ := Kd.at_int HR0.out x8_1 p343 q343
      cases e343
      replace p343 := eq_true p343
      replace q343 := eq_true q343
      go_wp2
      go_roundg k1
      case measure => have := HK1.out; omega
      case rel => exact ⟨(Int.tmod (wrap64 ((wrap64 ((wrap64 (31 * x3_1)) + (wrap64 (rd l0 x8_1)))) + 7)) 65521), (wrap64 (x8_1 + 1)), (by first | rfl | (simp; done) | (simp [*]; done)), (by first | rfl | (simp; done) | (simp [*]; done)), H', ⟨by have := HK1.out; omega⟩, by repeat (first | exact Drawn0.refl _ | apply Drawn0.step)⟩
     ·rw [if_neg c4] at H
      exact absurd H (by simp)
    ·rw [if_neg c3] at H
     exact absurd H (by simp)
   ·rw [if_neg c2] at H
    have c2b0 : decide (x8_1 < (l0.length : Int)) = false := decide_eq_false c2
    clear c2
    obtain rfl := Option.some.inj H
    go_wp2
    go_ret
    exact ⟨by first | rfl | (simp; done) | (simp [*]; done), by repeat (first | exact Drawn0.refl _ | apply Drawn0.step)⟩
end Go.Proofs.Ytalimpniimgheaa.Fn
namespace Go.Proofs.Ytalimpniimgheaa.Fn
open Go.RowKit Go.Proofs.YtalimpniimgheaaW.PrintWords Go.Proofs.YtalimpniimgheaaW.PrintLast Go.Proofs.YtalimpniimgheaaW.PrintMore
set_option linter.unusedVariables false
set_option linter.unusedSimpArgs false
theorem pk_w64 (i : Nat) (h : i ≤ 1000000000) : wrap64 ((i : Int) + 1) = ((i + 1 : Nat) : Int) := by unfold wrap64; omega
theorem odd1_ev (n : Int) : pack_odd_1.f n = some (!decide (0 ≤ n ∧ n < 72057594037927936)) := by
  unfold pack_odd_1.f
  by_cases h : n < 0
  · rw [if_pos h, decide_eq_false (by omega)]; rfl
  · rw [if_neg h]
    by_cases h2 : n < 72057594037927936
    · rw [decide_eq_true (show 0 ≤ n ∧ n < 72057594037927936 by omega), decide_eq_false (by omega)]; rfl
    · rw [decide_eq_false (show ¬ (0 ≤ n ∧ n < 72057594037927936) by omega), decide_eq_true (by omega)]; rfl
theorem idx141_go (xs : List Int) (hl : xs.length ≤ 1000) : ∀ m (i : Nat), xs.length - i = m → i ≤ xs.length → (∀ j, j < i → 0 ≤ xs.getD j 0 ∧ xs.getD j 0 < 72057594037927936) → ∃ k r, slices_IndexFunc_int_int.l0 k xs (xs.length : Int) (i : Int) = some r ∧ (0 ≤ r ↔ ¬ ∀ j, j < xs.length → 0 ≤ xs.getD j 0 ∧ xs.getD j 0 < 72057594037927936) := by
  intro m
  induction m with
  | zero =>
    intro i hm hi h
    refine ⟨1, -1, ?_, by constructor
                          · intro q; omega
                          · intro q; exact absurd (fun j hj => h j (by omega)) q⟩
    unfold slices_IndexFunc_int_int.l0
    rw [if_neg (by omega)]
  | succ m ih =>
    intro i hm hi h
    by_cases hx : 0 ≤ xs.getD i 0 ∧ xs.getD i 0 < 72057594037927936
    · obtain ⟨k, r, hk, hr⟩ := ih (i + 1) (by omega) (by omega) (fun j hj => by
        by_cases e : j = i
        · subst e; exact hx
        · exact h j (by omega))
      refine ⟨k + 1, r, ?_, hr⟩
      unfold slices_IndexFunc_int_int.l0
      rw [if_pos (by omega), if_pos (by omega), if_pos (by omega), odd1_ev]
      simp only [Option.bind_some]
      rw [if_neg (by show ¬ (!decide (0 ≤ rd xs (i : Int) ∧ rd xs (i : Int) < 72057594037927936)) = true; unfold rd; rw [Int.toNat_natCast, decide_eq_true hx]; simp), pk_w64 i (by omega)]
      exact hk
    · refine ⟨1, (i : Int), ?_, by constructor
                                   · intro _ q; exact hx (q i (by omega))
                                   · intro _; omega⟩
      unfold slices_IndexFunc_int_int.l0
      rw [if_pos (by omega), if_pos (by omega), if_pos (by omega), odd1_ev]
      simp only [Option.bind_some]
      rw [if_pos (by show (!decide (0 ≤ rd xs (i : Int) ∧ rd xs (i : Int) < 72057594037927936)) = true; unfold rd; rw [Int.toNat_natCast, decide_eq_false hx]; rfl)]
theorem odd_ev (x : S65) : ∃ k, pack_odd.f k x.f0 x.f1 x.f2 x.f3 = some (!decide (OkP x)) := by
  unfold pack_odd.f
  by_cases h0 : x.f1 < 0
  · exact ⟨0, by rw [if_pos h0, decide_eq_false (fun q => by have := q.1; omega)]; rfl⟩
  · by_cases h1 : x.f1 ≥ 16
    · exact ⟨0, by rw [if_neg h0, if_pos h1, decide_eq_false (fun q => by have := q.1; omega)]; rfl⟩
    · obtain ⟨k, r, hk, hr⟩ := idx141_go [x.f0, x.f2, x.f3] (by simp) _ 0 rfl (Nat.zero_le _) (fun j hj => absurd hj (by omega))
      refine ⟨k, ?_⟩
      rw [if_neg h0, if_neg h1]
      unfold slices_ContainsFunc_int_int.f slices_IndexFunc_int_int.f
      have hk2 : slices_IndexFunc_int_int.l0 k [x.f0, x.f2, x.f3] (([x.f0, x.f2, x.f3] : List Int).length : Int) 0 = some r := hk
      rw [hk2]
      simp only [Option.bind_some]
      have e : (∀ j, j < ([x.f0, x.f2, x.f3] : List Int).length → 0 ≤ ([x.f0, x.f2, x.f3] : List Int).getD j 0 ∧ ([x.f0, x.f2, x.f3] : List Int).getD j 0 < 72057594037927936) ↔ OkP x := by
        constructor
        · intro q
          exact ⟨⟨by omega, by omega⟩, q 0 (by simp), q 1 (by simp), q 2 (by simp)⟩
        · intro q j hj
          match j, hj with
          | 0, _ => exact q.2.1
          | 1, _ => exact q.2.2.1
          | 2, _ => exact q.2.2.2
          | j + 3, hj => exact absurd hj (by show ¬ (j + 3 < 3); omega)
      rw [e] at hr
      by_cases hq : OkP x
      · rw [decide_eq_true hq, decide_eq_false (by intro q; exact (hr.1 q) hq)]; rfl
      · rw [decide_eq_false hq, decide_eq_true (hr.2 hq)]; rfl
theorem odds_go (l : List S65) (hl : l.length ≤ 100000) : ∀ m (i : Nat), l.length - i = m → i ≤ l.length → (∀ j, j < i → OkP (l.getD j z65)) → ∃ k r, journal_Entry_109.l0 k l (l.length : Int) (i : Int) = some r ∧ (0 ≤ r ↔ ¬ ∀ j, j < l.length → OkP (l.getD j z65)) := by
  intro m
  induction m with
  | zero =>
    intro i hm hi h
    refine ⟨1, -1, ?_, by constructor
                          · intro q; omega
                          · intro q; exact absurd (fun j hj => h j (by omega)) q⟩
    unfold journal_Entry_109.l0
    rw [if_neg (by omega)]
  | succ m ih =>
    intro i hm hi h
    obtain ⟨k1, hk1⟩ := odd_ev (l.getD i z65)
    have e1 : rd_T65 l (i : Int) = l.getD i z65 := by unfold rd_T65; rw [Int.toNat_natCast]
    by_cases hx : OkP (l.getD i z65)
    · obtain ⟨k, r, hk, hr⟩ := ih (i + 1) (by omega) (by omega) (fun j hj => by
        by_cases e : j = i
        · subst e; exact hx
        · exact h j (by omega))
      have h1 := at_rounds (g := fun k => pack_odd.f k (l.getD i z65).f0 (l.getD i z65).f1 (l.getD i z65).f2 (l.getD i z65).f3) (fun k => pack_odd.mono _ _ _ _ k) (Nat.le_add_right k1 k) hk1
      have h2 := at_rounds (g := fun k => journal_Entry_109.l0 k l (l.length : Int) ((i + 1 : Nat) : Int)) (fun k => journal_Entry_109.mono_l k _ _ _) (Nat.le_add_left k k1) hk
      refine ⟨k1 + k + 1, r, ?_, hr⟩
      unfold journal_Entry_109.l0
      rw [if_pos (by omega), if_pos (by omega), if_pos (by omega), e1]
      rw [show pack_odd.f (k1 + k) (l.getD i z65).f0 (l.getD i z65).f1 (l.getD i z65).f2 (l.getD i z65).f3 = _ from h1]
      simp only [Option.bind_some]
      rw [if_neg (by rw [decide_eq_true hx]; simp), pk_w64 i (by omega)]
      exact h2
    · refine ⟨k1 + 1, (i : Int), ?_, by constructor
                                        · intro _ q; exact hx (q i (by omega))
                                        · intro _; omega⟩
      unfold journal_Entry_109.l0
      rw [if_pos (by omega), if_pos (by omega), if_pos (by omega), e1, hk1]
      simp only [Option.bind_some]
      rw [if_pos (by rw [decide_eq_false hx]; rfl)]
theorem all_getD {α : Type} (p : α → Prop) (l : List α) (d : α) : (∀ j, j < l.length → p (l.getD j d)) ↔ ∀ x, x ∈ l → p x := by
  constructor
  · intro h x hx
    obtain ⟨i, hi, rfl⟩ := List.mem_iff_getElem.1 hx
    have := h i hi
    rwa [getD_lt l d hi] at this
  · intro h j hj
    rw [getD_lt l d hj]
    exact h _ (List.getElem_mem _)
theorem odds_ev (l : List S65) (hl : l.length ≤ 100000) : ∃ k, journal_Entry_88.f k l = some (!decide (∀ x, x ∈ l → OkP x)) := by
  obtain ⟨k, r, hk, hr⟩ := odds_go l hl _ 0 rfl (Nat.zero_le _) (fun j hj => absurd hj (by omega))
  refine ⟨k, ?_⟩
  unfold journal_Entry_88.f journal_Entry_109.f
  have hk2 : journal_Entry_109.l0 k l (l.length : Int) 0 = some r := hk
  rw [hk2]
  simp only [Option.bind_some]
  rw [all_getD] at hr
  by_cases hq : ∀ x, x ∈ l → OkP x
  · rw [decide_eq_true hq, decide_eq_false (by intro q; exact (hr.1 q) hq)]; rfl
  · rw [decide_eq_false hq, decide_eq_true (hr.2 hq)]; rfl
theorem sum_go (bs : List Int) (hb : Bytes bs) (hl : bs.length ≤ 100000) : ∀ m (i : Nat), bs.length - i = m → i ≤ bs.length → ∃ k, pack_Sum.l0 k (sumP (bs.take i)) bs (bs.length : Int) (i : Int) = some (sumP bs) := by
  intro m
  induction m with
  | zero =>
    intro i hm hi
    refine ⟨1, ?_⟩
    unfold pack_Sum.l0
    rw [if_neg (by omega), List.take_of_length_le (by omega)]
  | succ m ih =>
    intro i hm hi
    obtain ⟨k, hk⟩ := ih (i + 1) (by omega) (by omega)
    refine ⟨k + 1, ?_⟩
    have hi2 : i < bs.length := by omega
    have hc := hb (bs.getD i 0) (by rw [getD_lt bs 0 hi2]; exact List.getElem_mem _)
    have hs := sumP_bd (bs.take i)
    have e : sumP (bs.take (i + 1)) = sumS (sumP (bs.take i)) (bs.getD i 0) := by
      rw [List.take_succ_eq_append_getElem hi2]; unfold sumP; rw [List.foldl_append, getD_lt bs 0 hi2]; rfl
    rw [e] at hk
    unfold pack_Sum.l0
    rw [if_pos (by omega), if_pos (by omega), if_pos (by omega), pk_w64 i (by omega)]
    have e2 : rd bs (i : Int) = bs.getD i 0 := by unfold rd; rw [Int.toNat_natCast]
    rw [e2]
    have e3 : Int.tmod (wrap64 (wrap64 (wrap64 (31 * sumP (bs.take i)) + wrap64 (bs.getD i 0)) + 7)) 65521 = sumS (sumP (bs.take i)) (bs.getD i 0) := by
      have w1 : wrap64 (31 * sumP (bs.take i)) = 31 * sumP (bs.take i) := by unfold wrap64; omega
      have w2 : wrap64 (bs.getD i 0) = bs.getD i 0 := by unfold wrap64; omega
      have w3 : wrap64 (31 * sumP (bs.take i) + bs.getD i 0) = 31 * sumP (bs.take i) + bs.getD i 0 := by unfold wrap64; omega
      have w4 : wrap64 (31 * sumP (bs.take i) + bs.getD i 0 + 7) = 31 * sumP (bs.take i) + bs.getD i 0 + 7 := by unfold wrap64; omega
      rw [w1, w2, w3, w4, Int.tmod_eq_emod_of_nonneg (by omega)]; rfl
    rw [e3]
    exact hk
theorem sum_ev (bs : List Int) (hb : Bytes bs) (hl : bs.length ≤ 100000) : ∃ k, pack_Sum.f k bs = some (sumP bs) := sum_go bs hb hl _ 0 rfl (Nat.zero_le _)
theorem psum_calls (A : Option Addr) (c : Nat) (bs : List Int) (w : World) (h : Kd.C (Kd.int .u8) w A bs.length bs) (hc : bs.length ≤ c) (hb : Bytes bs) (hl : bs.length ≤ 100000) : Calls Try.prog 59 #[.slice A bs.length c] w fun e w' => e = .returned (.int .i64 (sumP bs)) ∧ Below w.heap.size w w' := by
  obtain ⟨k, hk⟩ := sum_ev bs hb hl
  refine (pack_Sum.calls k A c bs _ w h hc hk).mono ?_
  rintro e w1 ⟨rfl, hd⟩
  exact ⟨rfl, hd.below⟩
end Go.Proofs.Ytalimpniimgheaa.Fn
namespace Go.Proofs.Ytalimpniimgheaa.Fn
open Go.RowKit Go.Proofs.YtalimpniimgheaaW.PrintWords Go.Proofs.YtalimpniimgheaaW.PrintLast Go.Proofs.YtalimpniimgheaaW.PrintMore
set_option linter.unusedVariables false
set_option linter.unusedSimpArgs false
theorem alloc_size1 (w : World) (o : Obj) : (w.alloc o).heap.size = w.heap.size + 1 := by unfold World.alloc; exact Array.size_push ..
theorem C_one_int {w : World} {g t : Nat} {n : Int} (h : w.heap[g]? = some (.cells #[.int .i64 n] t (0, 0))) : Kd.C (Kd.int .i64) w (some ⟨g, 0, none⟩) 1 [n] := by
 refine ⟨rfl, by simp, fun _ => ⟨_, rfl, ?_⟩⟩
 intro j p hp
 match j, hp with
 | 0, hp =>
  cases hp
  refine ⟨[.int .i64 n], rfl, rfl, fun i u hu => ?_⟩
  have h2 := blk_cell h i
  rw [add_plain, show 0 * (Kd.int .i64).sz + i = i by simp, h2]
  match i with
  | 0 => exact hu
  | i + 1 => exact absurd hu (by simp)
 | j + 1, hp => exact absurd hp (by simp)
theorem or_all : (∀ n : Fin 16, bits .or .i64 (n.val : Int) 64 = (n.val : Int) + 64) ∧ (∀ n : Fin 16, bits .or .i64 (n.val : Int) 128 = (n.val : Int) + 128) ∧ (∀ n : Fin 256, n.val / 16 % 2 = 0 → bits .or .i64 (n.val : Int) 16 = (n.val : Int) + 16) ∧ (∀ n : Fin 256, n.val / 32 % 2 = 0 → bits .or .i64 (n.val : Int) 32 = (n.val : Int) + 32) := by decide +kernel
theorem or64 (n : Int) (h0 : 0 ≤ n) (h1 : n < 16) : bits .or .i64 n 64 = n + 64 := by
 have h := or_all.1 ⟨n.toNat, by omega⟩
 simp only at h
 rwa [Int.toNat_of_nonneg h0] at h
theorem or128 (n : Int) (h0 : 0 ≤ n) (h1 : n < 16) : bits .or .i64 n 128 = n + 128 := by
 have h := or_all.2.1 ⟨n.toNat, by omega⟩
 simp only at h
 rwa [Int.toNat_of_nonneg h0] at h
theorem or16 (n : Int) (h0 : 0 ≤ n) (h1 : n < 256) (h2 : n / 16 % 2 = 0) : bits .or .i64 n 16 = n + 16 := by
 have h := or_all.2.2.1 ⟨n.toNat, by omega⟩ (by simp only; omega)
 simp only at h
 rwa [Int.toNat_of_nonneg h0] at h
theorem or32 (n : Int) (h0 : 0 ≤ n) (h1 : n < 256) (h2 : n / 32 % 2 = 0) : bits .or .i64 n 32 = n + 32 := by
 have h := or_all.2.2.2 ⟨n.toNat, by omega⟩ (by simp only; omega)
 simp only at h
 rwa [Int.toNat_of_nonneg h0] at h
def WAfter (w w' : World) (base g t : Nat) (rest : List Value) (A0 : Option Addr) (c0 : Nat) (bs0 bs : List Int) : Prop := ∃ A' c', IsW w' base g t rest 0 A' c' bs ∧ Chg (wS g (.slice A0 bs0.length c0)) w w' ∧ ∀ k, (Value.slice A' bs.length c').ownBlock = some k → wS g (.slice A0 bs0.length c0) k ∨ w.heap.size ≤ k
theorem wput_calls (w : World) (base g t : Nat) (rest : List Value) (A0 : Option Addr) (c0 : Nat) (bs0 : List Int) (sz : Int) (s : Nat) (A1 : Option Addr) (c1 : Nat) (xs : List Int) (hs : sz = (s : Int)) (h1 : 1 ≤ s) (h7 : s ≤ 7) (h : IsW w base g t rest 0 A0 c0 bs0) (hx : Kd.C (Kd.int .i64) w A1 xs.length xs) (hS : ∀ ad, A1 = some ad → 0 < xs.length → ¬ wS g (.slice A0 bs0.length c0) ad.block) (hl : bs0.length + xs.length * s ≤ 9000000) (hxl : xs.length ≤ 1000000) (hf : ∀ x, x ∈ xs → Fits s x) :
  Calls Try.prog 90 #[.pointer (some ⟨g, 0, none⟩), .int .i64 sz, .slice A1 xs.length c1] w fun e w' => e = .returned (.tuple #[]) ∧ WAfter w w' base g t rest A0 c0 bs0 (bs0 ++ (xs.map (numB s)).flatten) := by
 have h2 := cPut_calls w base g t rest 0 A0 c0 bs0 sz s A1 c1 xs hs h1 h7 h hx hS hl hxl
 rw [putL_fits xs hf bs0] at h2
 exact h2
section
variable {w wn w2 : World} {base g t c0 c2 : Nat} {rest : List Value} {er : Int} {A0 A2 : Option Addr} {bs0 bs2 : List Int}
theorem not_wS {A1 : Option Addr} {n1 c1 : Nat} {xs : List Int} {ok : Nat → Prop} (hI : IsW w base g t rest er A0 c0 bs0) (hR : (Kd.int .i64).R 3 wn w.heap.size ok (.slice A1 n1 c1) xs) (ho : ∀ k, (Value.slice A2 bs2.length c2).ownBlock = some k → wS g (.slice A0 bs0.length c0) k ∨ wn.heap.size ≤ k) : ∀ ad, A1 = some ad → 0 < xs.length → ¬ wS g (.slice A2 bs2.length c2) ad.block := by
 intro ad ha _ hs
 subst ha
 have h1 := Kd.R_base hR ad.block (by simp [Value.ownBlock])
 have h2 := Kd.R_lt hR ad.block (by simp [Value.ownBlock])
 rcases hs with h | h
 ·have := (hI.low g (.inl rfl)).2; omega
 ·rcases ho _ h with h3 | h3
  ·have := (hI.low _ h3).2; omega
  ·omega
theorem not_wSb {b : Nat} {o : Obj} (hI : IsW w base g t rest er A0 c0 bs0) (hb : wn.heap[b]? = some o) (hl : w.heap.size ≤ b) (ho : ∀ k, (Value.slice A2 bs2.length c2).ownBlock = some k → wS g (.slice A0 bs0.length c0) k ∨ wn.heap.size ≤ k) : ¬ wS g (.slice A2 bs2.length c2) b := by
 intro hs
 have h2 := blk_lt hb
 rcases hs with h | h
 ·have := (hI.low g (.inl rfl)).2; omega
 ·rcases ho _ h with h3 | h3
  ·have := (hI.low _ h3).2; omega
  ·omega
end
set_option maxHeartbeats 16000000 in
set_option maxRecDepth 100000 in
theorem pentry_calls (w : World) (base g : Nat) (last : Int) (A0 : Option Addr) (c0 : Nat) (bs0 : List Int) (x : S65) (h : IsW w base g 137 [.int .i64 last] 0 A0 c0 bs0) (hx : OkP x) (l0 : 0 ≤ last) (l9 : last < 72057594037927936) (hl : bs0.length ≤ 8000000) :
  Calls Try.prog 91 #[.pointer (some ⟨g, 0, none⟩), .agg #[.int .i64 x.f0, .int .i64 x.f1, .int .i64 x.f2, .int .i64 x.f3]] w fun e w' => e = .returned (.tuple #[]) ∧ WAfter w w' base g 137 [.int .i64 x.f0] A0 c0 bs0 (bs0 ++ entP last x) := by
 have hu := Try.underlying65
 have hu2 := Try.underlying137
 have HI := asd h
 have HO := asd hx
 have LB := asd hl
 have n0 := hx.1.1
 have n1 := hx.1.2
 have HB := asd (below_alloc (Below.refl w.heap.size w) (.cells #[.int .i64 x.f0, .int .i64 x.f1, .int .i64 x.f2, .int .i64 x.f3] 65))
 have BX := asd (heap_alloc_new w (.cells #[.int .i64 x.f0, .int .i64 x.f1, .int .i64 x.f2, .int .i64 x.f3] 65))
 have HR := asd (Kd.R_nil (Kd.int .i64) 3 (w.alloc (.cells #[.int .i64 x.f0, .int .i64 x.f1, .int .i64 x.f2, .int .i64 x.f3] 65)) w.heap.size (fun _ => True))
 have hx0 := (blk_cell BX.out 0).trans rfl
 have hx1 := (blk_cell BX.out 1).trans rfl
 have hx2 := (blk_cell BX.out 2).trans rfl
 have hx3 := (blk_cell BX.out 3).trans rfl
 clear h hx hl
 by_cases t0 : x.f0 = last
 ·by_cases a0 : x.f2 = 0
  ·by_cases b0 : x.f3 = 0
   ·have o1 := or64 x.f1 (by omega) (by omega)
    have o2 := or16 (x.f1 + 64) (by omega) (by omega) (by omega)
    have o3 := or32 (x.f1 + 64 + 16) (by omega) (by omega) (by omega)
    have HH : Aside0 (headP last x = x.f1 + 64 + 16 + 32) := ⟨by unfold headP headT; (rw [if_pos t0, if_pos a0, if_pos b0]) <;> omega⟩
    have HX : Aside0 (restP last x = ([] : List Int)) := ⟨by unfold restP restT restN; rw [if_pos t0, if_pos a0, if_pos b0]; rfl⟩
    have d0 : (x.f0 == last) = true := beq_iff_eq.2 t0
    have d2 : (x.f2 == 0) = true := beq_iff_eq.2 a0
    have d3 : (x.f3 == 0) = true := beq_iff_eq.2 b0
    clear t0 a0 b0
    have hl2 := (blk_cell (HI.out.below HB.out).blk 2).trans rfl
    go_enter Try.func91, Try.ntmps91
    go_wp2_with fail
    have BXn := asd (blk_alloc BX.out (.cells #[.int .i64 (x.f1 + 64 + 16 + 32)] 3))
    have HRn := asd (Kd.R_alloc HR.out (.cells #[.int .i64 (x.f1 + 64 + 16 + 32)] 3))
    have HBn := asd (below_step HB.out (below_alloc (Below.refl _ _) (.cells #[.int .i64 (x.f1 + 64 + 16 + 32)] 3)))
    have C1 := asd (C_one_int (heap_alloc_new (w.alloc (.cells #[.int .i64 x.f0, .int .i64 x.f1, .int .i64 x.f2, .int .i64 x.f3] 65)) (.cells #[.int .i64 (x.f1 + 64 + 16 + 32)] 3)))
    have SZn := asd (below_size HB.out)
    clear HR HB BX hl2
    clear hx0 hx1 hx2 hx3
    refine (calls_of_args (by simp [alloc_size1]) (wput_calls _ base g 137 [.int .i64 last] A0 c0 bs0 1 1 _ 1 [x.f1 + 64 + 16 + 32] rfl (by omega) (by omega) (HI.out.below HBn.out) C1.out (fun ad ha _ hs => by cases ha; have h1 := (HI.out.low _ hs).2; have h2 := SZn.out; simp only at h1; omega) (by have := LB.out; simp; omega) (by simp) (fun n hn => by rw [List.mem_singleton.1 hn, ← HH.out]; exact headP_fits HO.out))).mono ?_
    rintro e w2 ⟨rfl, A2, c2, hw2, hc2, ho2⟩
    have EB : Aside0 (bs0 ++ (([x.f1 + 64 + 16 + 32] : List Int).map (numB 1)).flatten = bs0 ++ numB 1 (headP last x)) := ⟨by rw [HH.out]; simp⟩
    rw [EB.out] at hw2 ho2
    have IW2 := asd hw2
    have NS := asd (not_wS HI.out HRn.out ho2)
    have NB := asd (not_wSb HI.out BXn.out (Nat.le_refl _) ho2)
    have BX2 := asd (blk_chg BXn.out hc2 (fun hs => by have := (HI.out.low _ hs).2; omega))
    have HR2 := asd (R_chgB HRn.out hc2 (fun k hk => (HI.out.low k hk).2))
    have HC2 := asd ((Chg.of_below HBn.out (wS g (.slice A0 bs0.length c0))).trans hc2)
    have OW2 : Aside0 (∀ k, wS g (.slice A2 (bs0 ++ numB 1 (headP last x)).length c2) k → wS g (.slice A0 bs0.length c0) k ∨ w.heap.size ≤ k) := ⟨fun k hk => hk.elim (fun h => .inl (.inl h)) (fun h => (ho2 k h).imp (fun q => q) (fun q => Nat.le_trans (below_size HBn.out) q))⟩
    clear hw2 hc2 ho2 BXn HRn HBn C1 EB
    go_wp2_with fail
    refine (calls_of_args (by simp [alloc_size1]) (wput_calls w2 base g 137 [.int .i64 last] A2 c2 (bs0 ++ numB 1 (headP last x)) 7 7 none 0 ([] : List Int) rfl (by omega) (by omega) IW2.out (C_ofR HR2.out) NS.out (by have := LB.out; rw [List.length_append, numB_len]; simp; omega) (by simp) (fun n hn => rest_fits HO.out n (by rw [HX.out]; exact hn)))).mono ?_
    rintro e w3 ⟨rfl, A3, c3, hw3, hc3, ho3⟩
    have EB : Aside0 ((bs0 ++ numB 1 (headP last x)) ++ ((([] : List Int)).map (numB 7)).flatten = bs0 ++ entP last x) := ⟨by unfold entP; rw [HX.out, List.append_assoc]⟩
    rw [EB.out] at hw3 ho3
    have IW3 := asd hw3
    have BX3 := asd (blk_chg BX2.out hc3 NB.out)
    have HC3 := asd (HC2.out.then_ hc3 (fun k hk => OW2.out k hk))
    have OW3 : Aside0 (∀ k, (Value.slice A3 (bs0 ++ entP last x).length c3).ownBlock = some k → wS g (.slice A0 bs0.length c0) k ∨ w.heap.size ≤ k) := ⟨fun k hk => (ho3 k hk).elim (fun h => OW2.out k h) (fun h => .inr (Nat.le_trans HC2.out.size h))⟩
    clear hw3 hc3 ho3 BX2 HR2 HC2 OW2 IW2 NS NB EB
    have hx0 := (blk_cell BX3.out 0).trans rfl
    have hl2 := (blk_cell IW3.out.blk 2).trans rfl
    have hf2 := blk_frozen IW3.out.blk 2
    go_wp2
    go_end0
    exact ⟨rfl, A3, c3, IW3.out.setR 0 (.int .i64 x.f0), HC3.out.set_ (p := ⟨g, 2, none⟩) (.inl (.inl rfl)) _, OW3.out⟩
   ·have o1 := or64 x.f1 (by omega) (by omega)
    have o2 := or16 (x.f1 + 64) (by omega) (by omega) (by omega)
    have HH : Aside0 (headP last x = x.f1 + 64 + 16) := ⟨by unfold headP headT; (rw [if_pos t0, if_pos a0, if_neg b0]) <;> omega⟩
    have HX : Aside0 (restP last x = ([x.f3] : List Int)) := ⟨by unfold restP restT restN; rw [if_pos t0, if_pos a0, if_neg b0]; rfl⟩
    have d0 : (x.f0 == last) = true := beq_iff_eq.2 t0
    have d2 : (x.f2 == 0) = true := beq_iff_eq.2 a0
    have d3 : (x.f3 == 0) = false := beq_eq_false_iff_ne.2 b0
    clear t0 a0 b0
    have hl2 := (blk_cell (HI.out.below HB.out).blk 2).trans rfl
    go_enter Try.func91, Try.ntmps91
    go_wp2_with (first | (at_builtin; refine Kd.R_append (Kd.int .i64) (w0 := w) w.heap.size rfl (.tmp 47) (.tmp 50) 23 3 (.int .i64 0) 8 rfl Try.underlying23 info3 rfl (by decide) (by omega) _ ([] : List Int) x.f3 [.int .i64 x.f3] (fun _ => True) (fun _ => False) rfl (by simp [Act.eval, alloc_size1]) rfl (fun _ hk => hk.elim) (fun _ _ => trivial) HR.out HB.out (below_size HB.out) (by simp) ?_; intro v1 w1 ho hb hg hat; have hb0 := blk_grown BX.out hg (Kd.R_ne HR.out BX.out (by decide)); clear HR HB BX; clear hx0 hx1 hx2 hx3; obtain ⟨A1, c1, rfl⟩ := Kd.R_slice ho; have HR := asd ho; have HB := asd hb; have BX := asd hb0; have hl2 := (blk_cell (HI.out.below hb).blk 2).trans rfl; clear ho hb hg hat hb0; have hx0 := (blk_cell BX.out 0).trans rfl; have hx1 := (blk_cell BX.out 1).trans rfl; have hx2 := (blk_cell BX.out 2).trans rfl; have hx3 := (blk_cell BX.out 3).trans rfl))
    have BXn := asd (blk_alloc BX.out (.cells #[.int .i64 (x.f1 + 64 + 16)] 3))
    have HRn := asd (Kd.R_alloc HR.out (.cells #[.int .i64 (x.f1 + 64 + 16)] 3))
    have HBn := asd (below_step HB.out (below_alloc (Below.refl _ _) (.cells #[.int .i64 (x.f1 + 64 + 16)] 3)))
    have C1 := asd (C_one_int (heap_alloc_new w1 (.cells #[.int .i64 (x.f1 + 64 + 16)] 3)))
    have SZn := asd (below_size HB.out)
    clear HR HB BX hl2
    clear hx0 hx1 hx2 hx3
    refine (calls_of_args (by simp [alloc_size1]) (wput_calls _ base g 137 [.int .i64 last] A0 c0 bs0 1 1 _ 1 [x.f1 + 64 + 16] rfl (by omega) (by omega) (HI.out.below HBn.out) C1.out (fun ad ha _ hs => by cases ha; have h1 := (HI.out.low _ hs).2; have h2 := SZn.out; simp only at h1; omega) (by have := LB.out; simp; omega) (by simp) (fun n hn => by rw [List.mem_singleton.1 hn, ← HH.out]; exact headP_fits HO.out))).mono ?_
    rintro e w2 ⟨rfl, A2, c2, hw2, hc2, ho2⟩
    have EB : Aside0 (bs0 ++ (([x.f1 + 64 + 16] : List Int).map (numB 1)).flatten = bs0 ++ numB 1 (headP last x)) := ⟨by rw [HH.out]; simp⟩
    rw [EB.out] at hw2 ho2
    have IW2 := asd hw2
    have NS := asd (not_wS HI.out HRn.out ho2)
    have NB := asd (not_wSb HI.out BXn.out (Nat.le_refl _) ho2)
    have BX2 := asd (blk_chg BXn.out hc2 (fun hs => by have := (HI.out.low _ hs).2; omega))
    have HR2 := asd (R_chgB HRn.out hc2 (fun k hk => (HI.out.low k hk).2))
    have HC2 := asd ((Chg.of_below HBn.out (wS g (.slice A0 bs0.length c0))).trans hc2)
    have OW2 : Aside0 (∀ k, wS g (.slice A2 (bs0 ++ numB 1 (headP last x)).length c2) k → wS g (.slice A0 bs0.length c0) k ∨ w.heap.size ≤ k) := ⟨fun k hk => hk.elim (fun h => .inl (.inl h)) (fun h => (ho2 k h).imp (fun q => q) (fun q => Nat.le_trans (below_size HBn.out) q))⟩
    clear hw2 hc2 ho2 BXn HRn HBn C1 EB
    go_wp2_with fail
    refine (calls_of_args (by simp [alloc_size1]) (wput_calls w2 base g 137 [.int .i64 last] A2 c2 (bs0 ++ numB 1 (headP last x)) 7 7 A1 c1 ([x.f3] : List Int) rfl (by omega) (by omega) IW2.out (C_ofR HR2.out) NS.out (by have := LB.out; rw [List.length_append, numB_len]; simp; omega) (by simp) (fun n hn => rest_fits HO.out n (by rw [HX.out]; exact hn)))).mono ?_
    rintro e w3 ⟨rfl, A3, c3, hw3, hc3, ho3⟩
    have EB : Aside0 ((bs0 ++ numB 1 (headP last x)) ++ ((([x.f3] : List Int)).map (numB 7)).flatten = bs0 ++ entP last x) := ⟨by unfold entP; rw [HX.out, List.append_assoc]⟩
    rw [EB.out] at hw3 ho3
    have IW3 := asd hw3
    have BX3 := asd (blk_chg BX2.out hc3 NB.out)
    have HC3 := asd (HC2.out.then_ hc3 (fun k hk => OW2.out k hk))
    have OW3 : Aside0 (∀ k, (Value.slice A3 (bs0 ++ entP last x).length c3).ownBlock = some k → wS g (.slice A0 bs0.length c0) k ∨ w.heap.size ≤ k) := ⟨fun k hk => (ho3 k hk).elim (fun h => OW2.out k h) (fun h => .inr (Nat.le_trans HC2.out.size h))⟩
    clear hw3 hc3 ho3 BX2 HR2 HC2 OW2 IW2 NS NB EB
    have hx0 := (blk_cell BX3.out 0).trans rfl
    have hl2 := (blk_cell IW3.out.blk 2).trans rfl
    have hf2 := blk_frozen IW3.out.blk 2
    go_wp2
    go_end0
    exact ⟨rfl, A3, c3, IW3.out.setR 0 (.int .i64 x.f0), HC3.out.set_ (p := ⟨g, 2, none⟩) (.inl (.inl rfl)) _, OW3.out⟩
  ·by_cases b0 : x.f3 = 0
   ·have o1 := or64 x.f1 (by omega) (by omega)
    have o3 := or32 (x.f1 + 64) (by omega) (by omega) (by omega)
    have HH : Aside0 (headP last x = x.f1 + 64 + 32) := ⟨by unfold headP headT; (rw [if_pos t0, if_neg a0, if_pos b0]) <;> omega⟩
    have HX : Aside0 (restP last x = ([x.f2] : List Int)) := ⟨by unfold restP restT restN; rw [if_pos t0, if_neg a0, if_pos b0]; rfl⟩
    have d0 : (x.f0 == last) = true := beq_iff_eq.2 t0
    have d2 : (x.f2 == 0) = false := beq_eq_false_iff_ne.2 a0
    have d3 : (x.f3 == 0) = true := beq_iff_eq.2 b0
    clear t0 a0 b0
    have hl2 := (blk_cell (HI.out.below HB.out).blk 2).trans rfl
    go_enter Try.func91, Try.ntmps91
    go_wp2_with (first | (at_builtin; refine Kd.R_append (Kd.int .i64) (w0 := w) w.heap.size rfl (.tmp 37) (.tmp 40) 23 3 (.int .i64 0) 8 rfl Try.underlying23 info3 rfl (by decide) (by omega) _ ([] : List Int) x.f2 [.int .i64 x.f2] (fun _ => True) (fun _ => False) rfl (by simp [Act.eval, alloc_size1]) rfl (fun _ hk => hk.elim) (fun _ _ => trivial) HR.out HB.out (below_size HB.out) (by simp) ?_; intro v1 w1 ho hb hg hat; have hb0 := blk_grown BX.out hg (Kd.R_ne HR.out BX.out (by decide)); clear HR HB BX; clear hx0 hx1 hx2 hx3; obtain ⟨A1, c1, rfl⟩ := Kd.R_slice ho; have HR := asd ho; have HB := asd hb; have BX := asd hb0; have hl2 := (blk_cell (HI.out.below hb).blk 2).trans rfl; clear ho hb hg hat hb0; have hx0 := (blk_cell BX.out 0).trans rfl; have hx1 := (blk_cell BX.out 1).trans rfl; have hx2 := (blk_cell BX.out 2).trans rfl; have hx3 := (blk_cell BX.out 3).trans rfl))
    have BXn := asd (blk_alloc BX.out (.cells #[.int .i64 (x.f1 + 64 + 32)] 3))
    have HRn := asd (Kd.R_alloc HR.out (.cells #[.int .i64 (x.f1 + 64 + 32)] 3))
    have HBn := asd (below_step HB.out (below_alloc (Below.refl _ _) (.cells #[.int .i64 (x.f1 + 64 + 32)] 3)))
    have C1 := asd (C_one_int (heap_alloc_new w1 (.cells #[.int .i64 (x.f1 + 64 + 32)] 3)))
    have SZn := asd (below_size HB.out)
    clear HR HB BX hl2
    clear hx0 hx1 hx2 hx3
    refine (calls_of_args (by simp [alloc_size1]) (wput_calls _ base g 137 [.int .i64 last] A0 c0 bs0 1 1 _ 1 [x.f1 + 64 + 32] rfl (by omega) (by omega) (HI.out.below HBn.out) C1.out (fun ad ha _ hs => by cases ha; have h1 := (HI.out.low _ hs).2; have h2 := SZn.out; simp only at h1; omega) (by have := LB.out; simp; omega) (by simp) (fun n hn => by rw [List.mem_singleton.1 hn, ← HH.out]; exact headP_fits HO.out))).mono ?_
    rintro e w2 ⟨rfl, A2, c2, hw2, hc2, ho2⟩
    have EB : Aside0 (bs0 ++ (([x.f1 + 64 + 32] : List Int).map (numB 1)).flatten = bs0 ++ numB 1 (headP last x)) := ⟨by rw [HH.out]; simp⟩
    rw [EB.out] at hw2 ho2
    have IW2 := asd hw2
    have NS := asd (not_wS HI.out HRn.out ho2)
    have NB := asd (not_wSb HI.out BXn.out (Nat.le_refl _) ho2)
    have BX2 := asd (blk_chg BXn.out hc2 (fun hs => by have := (HI.out.low _ hs).2; omega))
    have HR2 := asd (R_chgB HRn.out hc2 (fun k hk => (HI.out.low k hk).2))
    have HC2 := asd ((Chg.of_below HBn.out (wS g (.slice A0 bs0.length c0))).trans hc2)
    have OW2 : Aside0 (∀ k, wS g (.slice A2 (bs0 ++ numB 1 (headP last x)).length c2) k → wS g (.slice A0 bs0.length c0) k ∨ w.heap.size ≤ k) := ⟨fun k hk => hk.elim (fun h => .inl (.inl h)) (fun h => (ho2 k h).imp (fun q => q) (fun q => Nat.le_trans (below_size HBn.out) q))⟩
    clear hw2 hc2 ho2 BXn HRn HBn C1 EB
    go_wp2_with fail
    refine (calls_of_args (by simp [alloc_size1]) (wput_calls w2 base g 137 [.int .i64 last] A2 c2 (bs0 ++ numB 1 (headP last x)) 7 7 A1 c1 ([x.f2] : List Int) rfl (by omega) (by omega) IW2.out (C_ofR HR2.out) NS.out (by have := LB.out; rw [List.length_append, numB_len]; simp; omega) (by simp) (fun n hn => rest_fits HO.out n (by rw [HX.out]; exact hn)))).mono ?_
    rintro e w3 ⟨rfl, A3, c3, hw3, hc3, ho3⟩
    have EB : Aside0 ((bs0 ++ numB 1 (headP last x)) ++ ((([x.f2] : List Int)).map (numB 7)).flatten = bs0 ++ entP last x) := ⟨by unfold entP; rw [HX.out, List.append_assoc]⟩
    rw [EB.out] at hw3 ho3
    have IW3 := asd hw3
    have BX3 := asd (blk_chg BX2.out hc3 NB.out)
    have HC3 := asd (HC2.out.then_ hc3 (fun k hk => OW2.out k hk))
    have OW3 : Aside0 (∀ k, (Value.slice A3 (bs0 ++ entP last x).length c3).ownBlock = some k → wS g (.slice A0 bs0.length c0) k ∨ w.heap.size ≤ k) := ⟨fun k hk => (ho3 k hk).elim (fun h => OW2.out k h) (fun h => .inr (Nat.le_trans HC2.out.size h))⟩
    clear hw3 hc3 ho3 BX2 HR2 HC2 OW2 IW2 NS NB EB
    have hx0 := (blk_cell BX3.out 0).trans rfl
    have hl2 := (blk_cell IW3.out.blk 2).trans rfl
    have hf2 := blk_frozen IW3.out.blk 2
    go_wp2
    go_end0
    exact ⟨rfl, A3, c3, IW3.out.setR 0 (.int .i64 x.f0), HC3.out.set_ (p := ⟨g, 2, none⟩) (.inl (.inl rfl)) _, OW3.out⟩
   ·have o1 := or64 x.f1 (by omega) (by omega)
    have HH : Aside0 (headP last x = x.f1 + 64) := ⟨by unfold headP headT; (rw [if_pos t0, if_neg a0, if_neg b0]) <;> omega⟩
    have HX : Aside0 (restP last x = ([x.f2, x.f3] : List Int)) := ⟨by unfold restP restT restN; rw [if_pos t0, if_neg a0, if_neg b0]; rfl⟩
    have d0 : (x.f0 == last) = true := beq_iff_eq.2 t0
    have d2 : (x.f2 == 0) = false := beq_eq_false_iff_ne.2 a0
    have d3 : (x.f3 == 0) = false := beq_eq_false_iff_ne.2 b0
    clear t0 a0 b0
    have hl2 := (blk_cell (HI.out.below HB.out).blk 2).trans rfl
    go_enter Try.func91, Try.ntmps91
    go_wp2_with (first | (at_builtin; refine Kd.R_append (Kd.int .i64) (w0 := w) w.heap.size rfl (.tmp 37) (.tmp 40) 23 3 (.int .i64 0) 8 rfl Try.underlying23 info3 rfl (by decide) (by omega) _ ([] : List Int) x.f2 [.int .i64 x.f2] (fun _ => True) (fun _ => False) rfl (by simp [Act.eval, alloc_size1]) rfl (fun _ hk => hk.elim) (fun _ _ => trivial) HR.out HB.out (below_size HB.out) (by simp) ?_; intro v1 w1 ho hb hg hat; have hb0 := blk_grown BX.out hg (Kd.R_ne HR.out BX.out (by decide)); clear HR HB BX; clear hx0 hx1 hx2 hx3; obtain ⟨A1, c1, rfl⟩ := Kd.R_slice ho; have HR := asd ho; have HB := asd hb; have BX := asd hb0; have hl2 := (blk_cell (HI.out.below hb).blk 2).trans rfl; clear ho hb hg hat hb0; have hx0 := (blk_cell BX.out 0).trans rfl; have hx1 := (blk_cell BX.out 1).trans rfl; have hx2 := (blk_cell BX.out 2).trans rfl; have hx3 := (blk_cell BX.out 3).trans rfl) | (at_builtin; refine Kd.R_append (Kd.int .i64) (w0 := w) w.heap.size rfl (.tmp 47) (.tmp 50) 23 3 (.int .i64 0) 8 rfl Try.underlying23 info3 rfl (by decide) (by omega) _ ([x.f2] : List Int) x.f3 [.int .i64 x.f3] (fun _ => True) (fun _ => False) rfl (by simp [Act.eval, alloc_size1]) rfl (fun _ hk => hk.elim) (fun _ _ => trivial) HR.out HB.out (below_size HB.out) (by simp) ?_; intro v1 w1 ho hb hg hat; have hb0 := blk_grown BX.out hg (Kd.R_ne HR.out BX.out (by decide)); clear HR HB BX; clear hx0 hx1 hx2 hx3; obtain ⟨A1, c1, rfl⟩ := Kd.R_slice ho; have HR := asd ho; have HB := asd hb; have BX := asd hb0; have hl2 := (blk_cell (HI.out.below hb).blk 2).trans rfl; clear ho hb hg hat hb0; have hx0 := (blk_cell BX.out 0).trans rfl; have hx1 := (blk_cell BX.out 1).trans rfl; have hx2 := (blk_cell BX.out 2).trans rfl; have hx3 := (blk_cell BX.out 3).trans rfl))
    have BXn := asd (blk_alloc BX.out (.cells #[.int .i64 (x.f1 + 64)] 3))
    have HRn := asd (Kd.R_alloc HR.out (.cells #[.int .i64 (x.f1 + 64)] 3))
    have HBn := asd (below_step HB.out (below_alloc (Below.refl _ _) (.cells #[.int .i64 (x.f1 + 64)] 3)))
    have C1 := asd (C_one_int (heap_alloc_new w1 (.cells #[.int .i64 (x.f1 + 64)] 3)))
    have SZn := asd (below_size HB.out)
    clear HR HB BX hl2
    clear hx0 hx1 hx2 hx3
    refine (calls_of_args (by simp [alloc_size1]) (wput_calls _ base g 137 [.int .i64 last] A0 c0 bs0 1 1 _ 1 [x.f1 + 64] rfl (by omega) (by omega) (HI.out.below HBn.out) C1.out (fun ad ha _ hs => by cases ha; have h1 := (HI.out.low _ hs).2; have h2 := SZn.out; simp only at h1; omega) (by have := LB.out; simp; omega) (by simp) (fun n hn => by rw [List.mem_singleton.1 hn, ← HH.out]; exact headP_fits HO.out))).mono ?_
    rintro e w2 ⟨rfl, A2, c2, hw2, hc2, ho2⟩
    have EB : Aside0 (bs0 ++ (([x.f1 + 64] : List Int).map (numB 1)).flatten = bs0 ++ numB 1 (headP last x)) := ⟨by rw [HH.out]; simp⟩
    rw [EB.out] at hw2 ho2
    have IW2 := asd hw2
    have NS := asd (not_wS HI.out HRn.out ho2)
    have NB := asd (not_wSb HI.out BXn.out (Nat.le_refl _) ho2)
    have BX2 := asd (blk_chg BXn.out hc2 (fun hs => by have := (HI.out.low _ hs).2; omega))
    have HR2 := asd (R_chgB HRn.out hc2 (fun k hk => (HI.out.low k hk).2))
    have HC2 := asd ((Chg.of_below HBn.out (wS g (.slice A0 bs0.length c0))).trans hc2)
    have OW2 : Aside0 (∀ k, wS g (.slice A2 (bs0 ++ numB 1 (headP last x)).length c2) k → wS g (.slice A0 bs0.length c0) k ∨ w.heap.size ≤ k) := ⟨fun k hk => hk.elim (fun h => .inl (.inl h)) (fun h => (ho2 k h).imp (fun q => q) (fun q => Nat.le_trans (below_size HBn.out) q))⟩
    clear hw2 hc2 ho2 BXn HRn HBn C1 EB
    go_wp2_with fail
    refine (calls_of_args (by simp [alloc_size1]) (wput_calls w2 base g 137 [.int .i64 last] A2 c2 (bs0 ++ numB 1 (headP last x)) 7 7 A1 c1 ([x.f2, x.f3] : List Int) rfl (by omega) (by omega) IW2.out (C_ofR HR2.out) NS.out (by have := LB.out; rw [List.length_append, numB_len]; simp; omega) (by simp) (fun n hn => rest_fits HO.out n (by rw [HX.out]; exact hn)))).mono ?_
    rintro e w3 ⟨rfl, A3, c3, hw3, hc3, ho3⟩
    have EB : Aside0 ((bs0 ++ numB 1 (headP last x)) ++ ((([x.f2, x.f3] : List Int)).map (numB 7)).flatten = bs0 ++ entP last x) := ⟨by unfold entP; rw [HX.out, List.append_assoc]⟩
    rw [EB.out] at hw3 ho3
    have IW3 := asd hw3
    have BX3 := asd (blk_chg BX2.out hc3 NB.out)
    have HC3 := asd (HC2.out.then_ hc3 (fun k hk => OW2.out k hk))
    have OW3 : Aside0 (∀ k, (Value.slice A3 (bs0 ++ entP last x).length c3).ownBlock = some k → wS g (.slice A0 bs0.length c0) k ∨ w.heap.size ≤ k) := ⟨fun k hk => (ho3 k hk).elim (fun h => OW2.out k h) (fun h => .inr (Nat.le_trans HC2.out.size h))⟩
    clear hw3 hc3 ho3 BX2 HR2 HC2 OW2 IW2 NS NB EB
    have hx0 := (blk_cell BX3.out 0).trans rfl
    have hl2 := (blk_cell IW3.out.blk 2).trans rfl
    have hf2 := blk_frozen IW3.out.blk 2
    go_wp2
    go_end0
    exact ⟨rfl, A3, c3, IW3.out.setR 0 (.int .i64 x.f0), HC3.out.set_ (p := ⟨g, 2, none⟩) (.inl (.inl rfl)) _, OW3.out⟩
 ·by_cases t1 : x.f0 = last + 1
  ·by_cases a0 : x.f2 = 0
   ·by_cases b0 : x.f3 = 0
    ·have o1 := or128 x.f1 (by omega) (by omega)
     have o2 := or16 (x.f1 + 128) (by omega) (by omega) (by omega)
     have o3 := or32 (x.f1 + 128 + 16) (by omega) (by omega) (by omega)
     have HH : Aside0 (headP last x = x.f1 + 128 + 16 + 32) := ⟨by unfold headP headT; (rw [if_neg t0, if_pos t1, if_pos a0, if_pos b0]) <;> omega⟩
     have HX : Aside0 (restP last x = ([] : List Int)) := ⟨by unfold restP restT restN; rw [if_neg t0, if_pos t1, if_pos a0, if_pos b0]; rfl⟩
     have d0 : (x.f0 == last) = false := beq_eq_false_iff_ne.2 t0
     have d1 : (x.f0 == last + 1) = true := beq_iff_eq.2 t1
     have d2 : (x.f2 == 0) = true := beq_iff_eq.2 a0
     have d3 : (x.f3 == 0) = true := beq_iff_eq.2 b0
     clear t0 a0 b0 t1
     have hl2 := (blk_cell (HI.out.below HB.out).blk 2).trans rfl
     go_enter Try.func91, Try.ntmps91
     go_wp2_with fail
     have BXn := asd (blk_alloc BX.out (.cells #[.int .i64 (x.f1 + 128 + 16 + 32)] 3))
     have HRn := asd (Kd.R_alloc HR.out (.cells #[.int .i64 (x.f1 + 128 + 16 + 32)] 3))
     have HBn := asd (below_step HB.out (below_alloc (Below.refl _ _) (.cells #[.int .i64 (x.f1 + 128 + 16 + 32)] 3)))
     have C1 := asd (C_one_int (heap_alloc_new (w.alloc (.cells #[.int .i64 x.f0, .int .i64 x.f1, .int .i64 x.f2, .int .i64 x.f3] 65)) (.cells #[.int .i64 (x.f1 + 128 + 16 + 32)] 3)))
     have SZn := asd (below_size HB.out)
     clear HR HB BX hl2
     clear hx0 hx1 hx2 hx3
     refine (calls_of_args (by simp [alloc_size1]) (wput_calls _ base g 137 [.int .i64 last] A0 c0 bs0 1 1 _ 1 [x.f1 + 128 + 16 + 32] rfl (by omega) (by omega) (HI.out.below HBn.out) C1.out (fun ad ha _ hs => by cases ha; have h1 := (HI.out.low _ hs).2; have h2 := SZn.out; simp only at h1; omega) (by have := LB.out; simp; omega) (by simp) (fun n hn => by rw [List.mem_singleton.1 hn, ← HH.out]; exact headP_fits HO.out))).mono ?_
     rintro e w2 ⟨rfl, A2, c2, hw2, hc2, ho2⟩
     have EB : Aside0 (bs0 ++ (([x.f1 + 128 + 16 + 32] : List Int).map (numB 1)).flatten = bs0 ++ numB 1 (headP last x)) := ⟨by rw [HH.out]; simp⟩
     rw [EB.out] at hw2 ho2
     have IW2 := asd hw2
     have NS := asd (not_wS HI.out HRn.out ho2)
     have NB := asd (not_wSb HI.out BXn.out (Nat.le_refl _) ho2)
     have BX2 := asd (blk_chg BXn.out hc2 (fun hs => by have := (HI.out.low _ hs).2; omega))
     have HR2 := asd (R_chgB HRn.out hc2 (fun k hk => (HI.out.low k hk).2))
     have HC2 := asd ((Chg.of_below HBn.out (wS g (.slice A0 bs0.length c0))).trans hc2)
     have OW2 : Aside0 (∀ k, wS g (.slice A2 (bs0 ++ numB 1 (headP last x)).length c2) k → wS g (.slice A0 bs0.length c0) k ∨ w.heap.size ≤ k) := ⟨fun k hk => hk.elim (fun h => .inl (.inl h)) (fun h => (ho2 k h).imp (fun q => q) (fun q => Nat.le_trans (below_size HBn.out) q))⟩
     clear hw2 hc2 ho2 BXn HRn HBn C1 EB
     go_wp2_with fail
     refine (calls_of_args (by simp [alloc_size1]) (wput_calls w2 base g 137 [.int .i64 last] A2 c2 (bs0 ++ numB 1 (headP last x)) 7 7 none 0 ([] : List Int) rfl (by omega) (by omega) IW2.out (C_ofR HR2.out) NS.out (by have := LB.out; rw [List.length_append, numB_len]; simp; omega) (by simp) (fun n hn => rest_fits HO.out n (by rw [HX.out]; exact hn)))).mono ?_
     rintro e w3 ⟨rfl, A3, c3, hw3, hc3, ho3⟩
     have EB : Aside0 ((bs0 ++ numB 1 (headP last x)) ++ ((([] : List Int)).map (numB 7)).flatten = bs0 ++ entP last x) := ⟨by unfold entP; rw [HX.out, List.append_assoc]⟩
     rw [EB.out] at hw3 ho3
     have IW3 := asd hw3
     have BX3 := asd (blk_chg BX2.out hc3 NB.out)
     have HC3 := asd (HC2.out.then_ hc3 (fun k hk => OW2.out k hk))
     have OW3 : Aside0 (∀ k, (Value.slice A3 (bs0 ++ entP last x).length c3).ownBlock = some k → wS g (.slice A0 bs0.length c0) k ∨ w.heap.size ≤ k) := ⟨fun k hk => (ho3 k hk).elim (fun h => OW2.out k h) (fun h => .inr (Nat.le_trans HC2.out.size h))⟩
     clear hw3 hc3 ho3 BX2 HR2 HC2 OW2 IW2 NS NB EB
     have hx0 := (blk_cell BX3.out 0).trans rfl
     have hl2 := (blk_cell IW3.out.blk 2).trans rfl
     have hf2 := blk_frozen IW3.out.blk 2
     go_wp2
     go_end0
     exact ⟨rfl, A3, c3, IW3.out.setR 0 (.int .i64 x.f0), HC3.out.set_ (p := ⟨g, 2, none⟩) (.inl (.inl rfl)) _, OW3.out⟩
    ·have o1 := or128 x.f1 (by omega) (by omega)
     have o2 := or16 (x.f1 + 128) (by omega) (by omega) (by omega)
     have HH : Aside0 (headP last x = x.f1 + 128 + 16) := ⟨by unfold headP headT; (rw [if_neg t0, if_pos t1, if_pos a0, if_neg b0]) <;> omega⟩
     have HX : Aside0 (restP last x = ([x.f3] : List Int)) := ⟨by unfold restP restT restN; rw [if_neg t0, if_pos t1, if_pos a0, if_neg b0]; rfl⟩
     have d0 : (x.f0 == last) = false := beq_eq_false_iff_ne.2 t0
     have d1 : (x.f0 == last + 1) = true := beq_iff_eq.2 t1
     have d2 : (x.f2 == 0) = true := beq_iff_eq.2 a0
     have d3 : (x.f3 == 0) = false := beq_eq_false_iff_ne.2 b0
     clear t0 a0 b0 t1
     have hl2 := (blk_cell (HI.out.below HB.out).blk 2).trans rfl
     go_enter Try.func91, Try.ntmps91
     go_wp2_with (first | (at_builtin; refine Kd.R_append (Kd.int .i64) (w0 := w) w.heap.size rfl (.tmp 47) (.tmp 50) 23 3 (.int .i64 0) 8 rfl Try.underlying23 info3 rfl (by decide) (by omega) _ ([] : List Int) x.f3 [.int .i64 x.f3] (fun _ => True) (fun _ => False) rfl (by simp [Act.eval, alloc_size1]) rfl (fun _ hk => hk.elim) (fun _ _ => trivial) HR.out HB.out (below_size HB.out) (by simp) ?_; intro v1 w1 ho hb hg hat; have hb0 := blk_grown BX.out hg (Kd.R_ne HR.out BX.out (by decide)); clear HR HB BX; clear hx0 hx1 hx2 hx3; obtain ⟨A1, c1, rfl⟩ := Kd.R_slice ho; have HR := asd ho; have HB := asd hb; have BX := asd hb0; have hl2 := (blk_cell (HI.out.below hb).blk 2).trans rfl; clear ho hb hg hat hb0; have hx0 := (blk_cell BX.out 0).trans rfl; have hx1 := (blk_cell BX.out 1).trans rfl; have hx2 := (blk_cell BX.out 2).trans rfl; have hx3 := (blk_cell BX.out 3).trans rfl))
     have BXn := asd (blk_alloc BX.out (.cells #[.int .i64 (x.f1 + 128 + 16)] 3))
     have HRn := asd (Kd.R_alloc HR.out (.cells #[.int .i64 (x.f1 + 128 + 16)] 3))
     have HBn := asd (below_step HB.out (below_alloc (Below.refl _ _) (.cells #[.int .i64 (x.f1 + 128 + 16)] 3)))
     have C1 := asd (C_one_int (heap_alloc_new w1 (.cells #[.int .i64 (x.f1 + 128 + 16)] 3)))
     have SZn := asd (below_size HB.out)
     clear HR HB BX hl2
     clear hx0 hx1 hx2 hx3
     refine (calls_of_args (by simp [alloc_size1]) (wput_calls _ base g 137 [.int .i64 last] A0 c0 bs0 1 1 _ 1 [x.f1 + 128 + 16] rfl (by omega) (by omega) (HI.out.below HBn.out) C1.out (fun ad ha _ hs => by cases ha; have h1 := (HI.out.low _ hs).2; have h2 := SZn.out; simp only at h1; omega) (by have := LB.out; simp; omega) (by simp) (fun n hn => by rw [List.mem_singleton.1 hn, ← HH.out]; exact headP_fits HO.out))).mono ?_
     rintro e w2 ⟨rfl, A2, c2, hw2, hc2, ho2⟩
     have EB : Aside0 (bs0 ++ (([x.f1 + 128 + 16] : List Int).map (numB 1)).flatten = bs0 ++ numB 1 (headP last x)) := ⟨by rw [HH.out]; simp⟩
     rw [EB.out] at hw2 ho2
     have IW2 := asd hw2
     have NS := asd (not_wS HI.out HRn.out ho2)
     have NB := asd (not_wSb HI.out BXn.out (Nat.le_refl _) ho2)
     have BX2 := asd (blk_chg BXn.out hc2 (fun hs => by have := (HI.out.low _ hs).2; omega))
     have HR2 := asd (R_chgB HRn.out hc2 (fun k hk => (HI.out.low k hk).2))
     have HC2 := asd ((Chg.of_below HBn.out (wS g (.slice A0 bs0.length c0))).trans hc2)
     have OW2 : Aside0 (∀ k, wS g (.slice A2 (bs0 ++ numB 1 (headP last x)).length c2) k → wS g (.slice A0 bs0.length c0) k ∨ w.heap.size ≤ k) := ⟨fun k hk => hk.elim (fun h => .inl (.inl h)) (fun h => (ho2 k h).imp (fun q => q) (fun q => Nat.le_trans (below_size HBn.out) q))⟩
     clear hw2 hc2 ho2 BXn HRn HBn C1 EB
     go_wp2_with fail
     refine (calls_of_args (by simp [alloc_size1]) (wput_calls w2 base g 137 [.int .i64 last] A2 c2 (bs0 ++ numB 1 (headP last x)) 7 7 A1 c1 ([x.f3] : List Int) rfl (by omega) (by omega) IW2.out (C_ofR HR2.out) NS.out (by have := LB.out; rw [List.length_append, numB_len]; simp; omega) (by simp) (fun n hn => rest_fits HO.out n (by rw [HX.out]; exact hn)))).mono ?_
     rintro e w3 ⟨rfl, A3, c3, hw3, hc3, ho3⟩
     have EB : Aside0 ((bs0 ++ numB 1 (headP last x)) ++ ((([x.f3] : List Int)).map (numB 7)).flatten = bs0 ++ entP last x) := ⟨by unfold entP; rw [HX.out, List.append_assoc]⟩
     rw [EB.out] at hw3 ho3
     have IW3 := asd hw3
     have BX3 := asd (blk_chg BX2.out hc3 NB.out)
     have HC3 := asd (HC2.out.then_ hc3 (fun k hk => OW2.out k hk))
     have OW3 : Aside0 (∀ k, (Value.slice A3 (bs0 ++ entP last x).length c3).ownBlock = some k → wS g (.slice A0 bs0.length c0) k ∨ w.heap.size ≤ k) := ⟨fun k hk => (ho3 k hk).elim (fun h => OW2.out k h) (fun h => .inr (Nat.le_trans HC2.out.size h))⟩
     clear hw3 hc3 ho3 BX2 HR2 HC2 OW2 IW2 NS NB EB
     have hx0 := (blk_cell BX3.out 0).trans rfl
     have hl2 := (blk_cell IW3.out.blk 2).trans rfl
     have hf2 := blk_frozen IW3.out.blk 2
     go_wp2
     go_end0
     exact ⟨rfl, A3, c3, IW3.out.setR 0 (.int .i64 x.f0), HC3.out.set_ (p := ⟨g, 2, none⟩) (.inl (.inl rfl)) _, OW3.out⟩
   ·by_cases b0 : x.f3 = 0
    ·have o1 := or128 x.f1 (by omega) (by omega)
     have o3 := or32 (x.f1 + 128) (by omega) (by omega) (by omega)
     have HH : Aside0 (headP last x = x.f1 + 128 + 32) := ⟨by unfold headP headT; (rw [if_neg t0, if_pos t1, if_neg a0, if_pos b0]) <;> omega⟩
     have HX : Aside0 (restP last x = ([x.f2] : List Int)) := ⟨by unfold restP restT restN; rw [if_neg t0, if_pos t1, if_neg a0, if_pos b0]; rfl⟩
     have d0 : (x.f0 == last) = false := beq_eq_false_iff_ne.2 t0
     have d1 : (x.f0 == last + 1) = true := beq_iff_eq.2 t1
     have d2 : (x.f2 == 0) = false := beq_eq_false_iff_ne.2 a0
     have d3 : (x.f3 == 0) = true := beq_iff_eq.2 b0
     clear t0 a0 b0 t1
     have hl2 := (blk_cell (HI.out.below HB.out).blk 2).trans rfl
     go_enter Try.func91, Try.ntmps91
     go_wp2_with (first | (at_builtin; refine Kd.R_append (Kd.int .i64) (w0 := w) w.heap.size rfl (.tmp 37) (.tmp 40) 23 3 (.int .i64 0) 8 rfl Try.underlying23 info3 rfl (by decide) (by omega) _ ([] : List Int) x.f2 [.int .i64 x.f2] (fun _ => True) (fun _ => False) rfl (by simp [Act.eval, alloc_size1]) rfl (fun _ hk => hk.elim) (fun _ _ => trivial) HR.out HB.out (below_size HB.out) (by simp) ?_; intro v1 w1 ho hb hg hat; have hb0 := blk_grown BX.out hg (Kd.R_ne HR.out BX.out (by decide)); clear HR HB BX; clear hx0 hx1 hx2 hx3; obtain ⟨A1, c1, rfl⟩ := Kd.R_slice ho; have HR := asd ho; have HB := asd hb; have BX := asd hb0; have hl2 := (blk_cell (HI.out.below hb).blk 2).trans rfl; clear ho hb hg hat hb0; have hx0 := (blk_cell BX.out 0).trans rfl; have hx1 := (blk_cell BX.out 1).trans rfl; have hx2 := (blk_cell BX.out 2).trans rfl; have hx3 := (blk_cell BX.out 3).trans rfl))
     have BXn := asd (blk_alloc BX.out (.cells #[.int .i64 (x.f1 + 128 + 32)] 3))
     have HRn := asd (Kd.R_alloc HR.out (.cells #[.int .i64 (x.f1 + 128 + 32)] 3))
     have HBn := asd (below_step HB.out (below_alloc (Below.refl _ _) (.cells #[.int .i64 (x.f1 + 128 + 32)] 3)))
     have C1 := asd (C_one_int (heap_alloc_new w1 (.cells #[.int .i64 (x.f1 + 128 + 32)] 3)))
     have SZn := asd (below_size HB.out)
     clear HR HB BX hl2
     clear hx0 hx1 hx2 hx3
     refine (calls_of_args (by simp [alloc_size1]) (wput_calls _ base g 137 [.int .i64 last] A0 c0 bs0 1 1 _ 1 [x.f1 + 128 + 32] rfl (by omega) (by omega) (HI.out.below HBn.out) C1.out (fun ad ha _ hs => by cases ha; have h1 := (HI.out.low _ hs).2; have h2 := SZn.out; simp only at h1; omega) (by have := LB.out; simp; omega) (by simp) (fun n hn => by rw [List.mem_singleton.1 hn, ← HH.out]; exact headP_fits HO.out))).mono ?_
     rintro e w2 ⟨rfl, A2, c2, hw2, hc2, ho2⟩
     have EB : Aside0 (bs0 ++ (([x.f1 + 128 + 32] : List Int).map (numB 1)).flatten = bs0 ++ numB 1 (headP last x)) := ⟨by rw [HH.out]; simp⟩
     rw [EB.out] at hw2 ho2
     have IW2 := asd hw2
     have NS := asd (not_wS HI.out HRn.out ho2)
     have NB := asd (not_wSb HI.out BXn.out (Nat.le_refl _) ho2)
     have BX2 := asd (blk_chg BXn.out hc2 (fun hs => by have := (HI.out.low _ hs).2; omega))
     have HR2 := asd (R_chgB HRn.out hc2 (fun k hk => (HI.out.low k hk).2))
     have HC2 := asd ((Chg.of_below HBn.out (wS g (.slice A0 bs0.length c0))).trans hc2)
     have OW2 : Aside0 (∀ k, wS g (.slice A2 (bs0 ++ numB 1 (headP last x)).length c2) k → wS g (.slice A0 bs0.length c0) k ∨ w.heap.size ≤ k) := ⟨fun k hk => hk.elim (fun h => .inl (.inl h)) (fun h => (ho2 k h).imp (fun q => q) (fun q => Nat.le_trans (below_size HBn.out) q))⟩
     clear hw2 hc2 ho2 BXn HRn HBn C1 EB
     go_wp2_with fail
     refine (calls_of_args (by simp [alloc_size1]) (wput_calls w2 base g 137 [.int .i64 last] A2 c2 (bs0 ++ numB 1 (headP last x)) 7 7 A1 c1 ([x.f2] : List Int) rfl (by omega) (by omega) IW2.out (C_ofR HR2.out) NS.out (by have := LB.out; rw [List.length_append, numB_len]; simp; omega) (by simp) (fun n hn => rest_fits HO.out n (by rw [HX.out]; exact hn)))).mono ?_
     rintro e w3 ⟨rfl, A3, c3, hw3, hc3, ho3⟩
     have EB : Aside0 ((bs0 ++ numB 1 (headP last x)) ++ ((([x.f2] : List Int)).map (numB 7)).flatten = bs0 ++ entP last x) := ⟨by unfold entP; rw [HX.out, List.append_assoc]⟩
     rw [EB.out] at hw3 ho3
     have IW3 := asd hw3
     have BX3 := asd (blk_chg BX2.out hc3 NB.out)
     have HC3 := asd (HC2.out.then_ hc3 (fun k hk => OW2.out k hk))
     have OW3 : Aside0 (∀ k, (Value.slice A3 (bs0 ++ entP last x).length c3).ownBlock = some k → wS g (.slice A0 bs0.length c0) k ∨ w.heap.size ≤ k) := ⟨fun k hk => (ho3 k hk).elim (fun h => OW2.out k h) (fun h => .inr (Nat.le_trans HC2.out.size h))⟩
     clear hw3 hc3 ho3 BX2 HR2 HC2 OW2 IW2 NS NB EB
     have hx0 := (blk_cell BX3.out 0).trans rfl
     have hl2 := (blk_cell IW3.out.blk 2).trans rfl
     have hf2 := blk_frozen IW3.out.blk 2
     go_wp2
     go_end0
     exact ⟨rfl, A3, c3, IW3.out.setR 0 (.int .i64 x.f0), HC3.out.set_ (p := ⟨g, 2, none⟩) (.inl (.inl rfl)) _, OW3.out⟩
    ·have o1 := or128 x.f1 (by omega) (by omega)
     have HH : Aside0 (headP last x = x.f1 + 128) := ⟨by unfold headP headT; (rw [if_neg t0, if_pos t1, if_neg a0, if_neg b0]) <;> omega⟩
     have HX : Aside0 (restP last x = ([x.f2, x.f3] : List Int)) := ⟨by unfold restP restT restN; rw [if_neg t0, if_pos t1, if_neg a0, if_neg b0]; rfl⟩
     have d0 : (x.f0 == last) = false := beq_eq_false_iff_ne.2 t0
     have d1 : (x.f0 == last + 1) = true := beq_iff_eq.2 t1
     have d2 : (x.f2 == 0) = false := beq_eq_false_iff_ne.2 a0
     have d3 : (x.f3 == 0) = false := beq_eq_false_iff_ne.2 b0
     clear t0 a0 b0 t1
     have hl2 := (blk_cell (HI.out.below HB.out).blk 2).trans rfl
     go_enter Try.func91, Try.ntmps91
     go_wp2_with (first | (at_builtin; refine Kd.R_append (Kd.int .i64) (w0 := w) w.heap.size rfl (.tmp 37) (.tmp 40) 23 3 (.int .i64 0) 8 rfl Try.underlying23 info3 rfl (by decide) (by omega) _ ([] : List Int) x.f2 [.int .i64 x.f2] (fun _ => True) (fun _ => False) rfl (by simp [Act.eval, alloc_size1]) rfl (fun _ hk => hk.elim) (fun _ _ => trivial) HR.out HB.out (below_size HB.out) (by simp) ?_; intro v1 w1 ho hb hg hat; have hb0 := blk_grown BX.out hg (Kd.R_ne HR.out BX.out (by decide)); clear HR HB BX; clear hx0 hx1 hx2 hx3; obtain ⟨A1, c1, rfl⟩ := Kd.R_slice ho; have HR := asd ho; have HB := asd hb; have BX := asd hb0; have hl2 := (blk_cell (HI.out.below hb).blk 2).trans rfl; clear ho hb hg hat hb0; have hx0 := (blk_cell BX.out 0).trans rfl; have hx1 := (blk_cell BX.out 1).trans rfl; have hx2 := (blk_cell BX.out 2).trans rfl; have hx3 := (blk_cell BX.out 3).trans rfl) | (at_builtin; refine Kd.R_append (Kd.int .i64) (w0 := w) w.heap.size rfl (.tmp 47) (.tmp 50) 23 3 (.int .i64 0) 8 rfl Try.underlying23 info3 rfl (by decide) (by omega) _ ([x.f2] : List Int) x.f3 [.int .i64 x.f3] (fun _ => True) (fun _ => False) rfl (by simp [Act.eval, alloc_size1]) rfl (fun _ hk => hk.elim) (fun _ _ => trivial) HR.out HB.out (below_size HB.out) (by simp) ?_; intro v1 w1 ho hb hg hat; have hb0 := blk_grown BX.out hg (Kd.R_ne HR.out BX.out (by decide)); clear HR HB BX; clear hx0 hx1 hx2 hx3; obtain ⟨A1, c1, rfl⟩ := Kd.R_slice ho; have HR := asd ho; have HB := asd hb; have BX := asd hb0; have hl2 := (blk_cell (HI.out.below hb).blk 2).trans rfl; clear ho hb hg hat hb0; have hx0 := (blk_cell BX.out 0).trans rfl; have hx1 := (blk_cell BX.out 1).trans rfl; have hx2 := (blk_cell BX.out 2).trans rfl; have hx3 := (blk_cell BX.out 3).trans rfl))
     have BXn := asd (blk_alloc BX.out (.cells #[.int .i64 (x.f1 + 128)] 3))
     have HRn := asd (Kd.R_alloc HR.out (.cells #[.int .i64 (x.f1 + 128)] 3))
     have HBn := asd (below_step HB.out (below_alloc (Below.refl _ _) (.cells #[.int .i64 (x.f1 + 128)] 3)))
     have C1 := asd (C_one_int (heap_alloc_new w1 (.cells #[.int .i64 (x.f1 + 128)] 3)))
     have SZn := asd (below_size HB.out)
     clear HR HB BX hl2
     clear hx0 hx1 hx2 hx3
     refine (calls_of_args (by simp [alloc_size1]) (wput_calls _ base g 137 [.int .i64 last] A0 c0 bs0 1 1 _ 1 [x.f1 + 128] rfl (by omega) (by omega) (HI.out.below HBn.out) C1.out (fun ad ha _ hs => by cases ha; have h1 := (HI.out.low _ hs).2; have h2 := SZn.out; simp only at h1; omega) (by have := LB.out; simp; omega) (by simp) (fun n hn => by rw [List.mem_singleton.1 hn, ← HH.out]; exact headP_fits HO.out))).mono ?_
     rintro e w2 ⟨rfl, A2, c2, hw2, hc2, ho2⟩
     have EB : Aside0 (bs0 ++ (([x.f1 + 128] : List Int).map (numB 1)).flatten = bs0 ++ numB 1 (headP last x)) := ⟨by rw [HH.out]; simp⟩
     rw [EB.out] at hw2 ho2
     have IW2 := asd hw2
     have NS := asd (not_wS HI.out HRn.out ho2)
     have NB := asd (not_wSb HI.out BXn.out (Nat.le_refl _) ho2)
     have BX2 := asd (blk_chg BXn.out hc2 (fun hs => by have := (HI.out.low _ hs).2; omega))
     have HR2 := asd (R_chgB HRn.out hc2 (fun k hk => (HI.out.low k hk).2))
     have HC2 := asd ((Chg.of_below HBn.out (wS g (.slice A0 bs0.length c0))).trans hc2)
     have OW2 : Aside0 (∀ k, wS g (.slice A2 (bs0 ++ numB 1 (headP last x)).length c2) k → wS g (.slice A0 bs0.length c0) k ∨ w.heap.size ≤ k) := ⟨fun k hk => hk.elim (fun h => .inl (.inl h)) (fun h => (ho2 k h).imp (fun q => q) (fun q => Nat.le_trans (below_size HBn.out) q))⟩
     clear hw2 hc2 ho2 BXn HRn HBn C1 EB
     go_wp2_with fail
     refine (calls_of_args (by simp [alloc_size1]) (wput_calls w2 base g 137 [.int .i64 last] A2 c2 (bs0 ++ numB 1 (headP last x)) 7 7 A1 c1 ([x.f2, x.f3] : List Int) rfl (by omega) (by omega) IW2.out (C_ofR HR2.out) NS.out (by have := LB.out; rw [List.length_append, numB_len]; simp; omega) (by simp) (fun n hn => rest_fits HO.out n (by rw [HX.out]; exact hn)))).mono ?_
     rintro e w3 ⟨rfl, A3, c3, hw3, hc3, ho3⟩
     have EB : Aside0 ((bs0 ++ numB 1 (headP last x)) ++ ((([x.f2, x.f3] : List Int)).map (numB 7)).flatten = bs0 ++ entP last x) := ⟨by unfold entP; rw [HX.out, List.append_assoc]⟩
     rw [EB.out] at hw3 ho3
     have IW3 := asd hw3
     have BX3 := asd (blk_chg BX2.out hc3 NB.out)
     have HC3 := asd (HC2.out.then_ hc3 (fun k hk => OW2.out k hk))
     have OW3 : Aside0 (∀ k, (Value.slice A3 (bs0 ++ entP last x).length c3).ownBlock = some k → wS g (.slice A0 bs0.length c0) k ∨ w.heap.size ≤ k) := ⟨fun k hk => (ho3 k hk).elim (fun h => OW2.out k h) (fun h => .inr (Nat.le_trans HC2.out.size h))⟩
     clear hw3 hc3 ho3 BX2 HR2 HC2 OW2 IW2 NS NB EB
     have hx0 := (blk_cell BX3.out 0).trans rfl
     have hl2 := (blk_cell IW3.out.blk 2).trans rfl
     have hf2 := blk_frozen IW3.out.blk 2
     go_wp2
     go_end0
     exact ⟨rfl, A3, c3, IW3.out.setR 0 (.int .i64 x.f0), HC3.out.set_ (p := ⟨g, 2, none⟩) (.inl (.inl rfl)) _, OW3.out⟩
  ·by_cases a0 : x.f2 = 0
   ·by_cases b0 : x.f3 = 0
    ·have o2 := or16 (x.f1) (by omega) (by omega) (by omega)
     have o3 := or32 (x.f1 + 16) (by omega) (by omega) (by omega)
     have HH : Aside0 (headP last x = x.f1 + 16 + 32) := ⟨by unfold headP headT; (rw [if_neg t0, if_neg t1, if_pos a0, if_pos b0]) <;> omega⟩
     have HX : Aside0 (restP last x = ([x.f0] : List Int)) := ⟨by unfold restP restT restN; rw [if_neg t0, if_neg t1, if_pos a0, if_pos b0]; rfl⟩
     have d0 : (x.f0 == last) = false := beq_eq_false_iff_ne.2 t0
     have d1 : (x.f0 == last + 1) = false := beq_eq_false_iff_ne.2 t1
     have d2 : (x.f2 == 0) = true := beq_iff_eq.2 a0
     have d3 : (x.f3 == 0) = true := beq_iff_eq.2 b0
     clear t0 a0 b0 t1
     have hl2 := (blk_cell (HI.out.below HB.out).blk 2).trans rfl
     go_enter Try.func91, Try.ntmps91
     go_wp2_with (first | (at_builtin; refine Kd.R_append (Kd.int .i64) (w0 := w) w.heap.size rfl (.tmp 10) (.tmp 13) 23 3 (.int .i64 0) 8 rfl Try.underlying23 info3 rfl (by decide) (by omega) _ ([] : List Int) x.f0 [.int .i64 x.f0] (fun _ => True) (fun _ => False) rfl (by simp [Act.eval, alloc_size1]) rfl (fun _ hk => hk.elim) (fun _ _ => trivial) HR.out HB.out (below_size HB.out) (by simp) ?_; intro v1 w1 ho hb hg hat; have hb0 := blk_grown BX.out hg (Kd.R_ne HR.out BX.out (by decide)); clear HR HB BX; clear hx0 hx1 hx2 hx3; obtain ⟨A1, c1, rfl⟩ := Kd.R_slice ho; have HR := asd ho; have HB := asd hb; have BX := asd hb0; have hl2 := (blk_cell (HI.out.below hb).blk 2).trans rfl; clear ho hb hg hat hb0; have hx0 := (blk_cell BX.out 0).trans rfl; have hx1 := (blk_cell BX.out 1).trans rfl; have hx2 := (blk_cell BX.out 2).trans rfl; have hx3 := (blk_cell BX.out 3).trans rfl))
     have BXn := asd (blk_alloc BX.out (.cells #[.int .i64 (x.f1 + 16 + 32)] 3))
     have HRn := asd (Kd.R_alloc HR.out (.cells #[.int .i64 (x.f1 + 16 + 32)] 3))
     have HBn := asd (below_step HB.out (below_alloc (Below.refl _ _) (.cells #[.int .i64 (x.f1 + 16 + 32)] 3)))
     have C1 := asd (C_one_int (heap_alloc_new w1 (.cells #[.int .i64 (x.f1 + 16 + 32)] 3)))
     have SZn := asd (below_size HB.out)
     clear HR HB BX hl2
     clear hx0 hx1 hx2 hx3
     refine (calls_of_args (by simp [alloc_size1]) (wput_calls _ base g 137 [.int .i64 last] A0 c0 bs0 1 1 _ 1 [x.f1 + 16 + 32] rfl (by omega) (by omega) (HI.out.below HBn.out) C1.out (fun ad ha _ hs => by cases ha; have h1 := (HI.out.low _ hs).2; have h2 := SZn.out; simp only at h1; omega) (by have := LB.out; simp; omega) (by simp) (fun n hn => by rw [List.mem_singleton.1 hn, ← HH.out]; exact headP_fits HO.out))).mono ?_
     rintro e w2 ⟨rfl, A2, c2, hw2, hc2, ho2⟩
     have EB : Aside0 (bs0 ++ (([x.f1 + 16 + 32] : List Int).map (numB 1)).flatten = bs0 ++ numB 1 (headP last x)) := ⟨by rw [HH.out]; simp⟩
     rw [EB.out] at hw2 ho2
     have IW2 := asd hw2
     have NS := asd (not_wS HI.out HRn.out ho2)
     have NB := asd (not_wSb HI.out BXn.out (Nat.le_refl _) ho2)
     have BX2 := asd (blk_chg BXn.out hc2 (fun hs => by have := (HI.out.low _ hs).2; omega))
     have HR2 := asd (R_chgB HRn.out hc2 (fun k hk => (HI.out.low k hk).2))
     have HC2 := asd ((Chg.of_below HBn.out (wS g (.slice A0 bs0.length c0))).trans hc2)
     have OW2 : Aside0 (∀ k, wS g (.slice A2 (bs0 ++ numB 1 (headP last x)).length c2) k → wS g (.slice A0 bs0.length c0) k ∨ w.heap.size ≤ k) := ⟨fun k hk => hk.elim (fun h => .inl (.inl h)) (fun h => (ho2 k h).imp (fun q => q) (fun q => Nat.le_trans (below_size HBn.out) q))⟩
     clear hw2 hc2 ho2 BXn HRn HBn C1 EB
     go_wp2_with fail
     refine (calls_of_args (by simp [alloc_size1]) (wput_calls w2 base g 137 [.int .i64 last] A2 c2 (bs0 ++ numB 1 (headP last x)) 7 7 A1 c1 ([x.f0] : List Int) rfl (by omega) (by omega) IW2.out (C_ofR HR2.out) NS.out (by have := LB.out; rw [List.length_append, numB_len]; simp; omega) (by simp) (fun n hn => rest_fits HO.out n (by rw [HX.out]; exact hn)))).mono ?_
     rintro e w3 ⟨rfl, A3, c3, hw3, hc3, ho3⟩
     have EB : Aside0 ((bs0 ++ numB 1 (headP last x)) ++ ((([x.f0] : List Int)).map (numB 7)).flatten = bs0 ++ entP last x) := ⟨by unfold entP; rw [HX.out, List.append_assoc]⟩
     rw [EB.out] at hw3 ho3
     have IW3 := asd hw3
     have BX3 := asd (blk_chg BX2.out hc3 NB.out)
     have HC3 := asd (HC2.out.then_ hc3 (fun k hk => OW2.out k hk))
     have OW3 : Aside0 (∀ k, (Value.slice A3 (bs0 ++ entP last x).length c3).ownBlock = some k → wS g (.slice A0 bs0.length c0) k ∨ w.heap.size ≤ k) := ⟨fun k hk => (ho3 k hk).elim (fun h => OW2.out k h) (fun h => .inr (Nat.le_trans HC2.out.size h))⟩
     clear hw3 hc3 ho3 BX2 HR2 HC2 OW2 IW2 NS NB EB
     have hx0 := (blk_cell BX3.out 0).trans rfl
     have hl2 := (blk_cell IW3.out.blk 2).trans rfl
     have hf2 := blk_frozen IW3.out.blk 2
     go_wp2
     go_end0
     exact ⟨rfl, A3, c3, IW3.out.setR 0 (.int .i64 x.f0), HC3.out.set_ (p := ⟨g, 2, none⟩) (.inl (.inl rfl)) _, OW3.out⟩
    ·have o2 := or16 (x.f1) (by omega) (by omega) (by omega)
     have HH : Aside0 (headP last x = x.f1 + 16) := ⟨by unfold headP headT; (rw [if_neg t0, if_neg t1, if_pos a0, if_neg b0]) <;> omega⟩
     have HX : Aside0 (restP last x = ([x.f0, x.f3] : List Int)) := ⟨by unfold restP restT restN; rw [if_neg t0, if_neg t1, if_pos a0, if_neg b0]; rfl⟩
     have d0 : (x.f0 == last) = false := beq_eq_false_iff_ne.2 t0
     have d1 : (x.f0 == last + 1) = false := beq_eq_false_iff_ne.2 t1
     have d2 : (x.f2 == 0) = true := beq_iff_eq.2 a0
     have d3 : (x.f3 == 0) = false := beq_eq_false_iff_ne.2 b0
     clear t0 a0 b0 t1
     have hl2 := (blk_cell (HI.out.below HB.out).blk 2).trans rfl
     go_enter Try.func91, Try.ntmps91
     go_wp2_with (first | (at_builtin; refine Kd.R_append (Kd.int .i64) (w0 := w) w.heap.size rfl (.tmp 10) (.tmp 13) 23 3 (.int .i64 0) 8 rfl Try.underlying23 info3 rfl (by decide) (by omega) _ ([] : List Int) x.f0 [.int .i64 x.f0] (fun _ => True) (fun _ => False) rfl (by simp [Act.eval, alloc_size1]) rfl (fun _ hk => hk.elim) (fun _ _ => trivial) HR.out HB.out (below_size HB.out) (by simp) ?_; intro v1 w1 ho hb hg hat; have hb0 := blk_grown BX.out hg (Kd.R_ne HR.out BX.out (by decide)); clear HR HB BX; clear hx0 hx1 hx2 hx3; obtain ⟨A1, c1, rfl⟩ := Kd.R_slice ho; have HR := asd ho; have HB := asd hb; have BX := asd hb0; have hl2 := (blk_cell (HI.out.below hb).blk 2).trans rfl; clear ho hb hg hat hb0; have hx0 := (blk_cell BX.out 0).trans rfl; have hx1 := (blk_cell BX.out 1).trans rfl; have hx2 := (blk_cell BX.out 2).trans rfl; have hx3 := (blk_cell BX.out 3).trans rfl) | (at_builtin; refine Kd.R_append (Kd.int .i64) (w0 := w) w.heap.size rfl (.tmp 47) (.tmp 50) 23 3 (.int .i64 0) 8 rfl Try.underlying23 info3 rfl (by decide) (by omega) _ ([x.f0] : List Int) x.f3 [.int .i64 x.f3] (fun _ => True) (fun _ => False) rfl (by simp [Act.eval, alloc_size1]) rfl (fun _ hk => hk.elim) (fun _ _ => trivial) HR.out HB.out (below_size HB.out) (by simp) ?_; intro v1 w1 ho hb hg hat; have hb0 := blk_grown BX.out hg (Kd.R_ne HR.out BX.out (by decide)); clear HR HB BX; clear hx0 hx1 hx2 hx3; obtain ⟨A1, c1, rfl⟩ := Kd.R_slice ho; have HR := asd ho; have HB := asd hb; have BX := asd hb0; have hl2 := (blk_cell (HI.out.below hb).blk 2).trans rfl; clear ho hb hg hat hb0; have hx0 := (blk_cell BX.out 0).trans rfl; have hx1 := (blk_cell BX.out 1).trans rfl; have hx2 := (blk_cell BX.out 2).trans rfl; have hx3 := (blk_cell BX.out 3).trans rfl))
     have BXn := asd (blk_alloc BX.out (.cells #[.int .i64 (x.f1 + 16)] 3))
     have HRn := asd (Kd.R_alloc HR.out (.cells #[.int .i64 (x.f1 + 16)] 3))
     have HBn := asd (below_step HB.out (below_alloc (Below.refl _ _) (.cells #[.int .i64 (x.f1 + 16)] 3)))
     have C1 := asd (C_one_int (heap_alloc_new w1 (.cells #[.int .i64 (x.f1 + 16)] 3)))
     have SZn := asd (below_size HB.out)
     clear HR HB BX hl2
     clear hx0 hx1 hx2 hx3
     refine (calls_of_args (by simp [alloc_size1]) (wput_calls _ base g 137 [.int .i64 last] A0 c0 bs0 1 1 _ 1 [x.f1 + 16] rfl (by omega) (by omega) (HI.out.below HBn.out) C1.out (fun ad ha _ hs => by cases ha; have h1 := (HI.out.low _ hs).2; have h2 := SZn.out; simp only at h1; omega) (by have := LB.out; simp; omega) (by simp) (fun n hn => by rw [List.mem_singleton.1 hn, ← HH.out]; exact headP_fits HO.out))).mono ?_
     rintro e w2 ⟨rfl, A2, c2, hw2, hc2, ho2⟩
     have EB : Aside0 (bs0 ++ (([x.f1 + 16] : List Int).map (numB 1)).flatten = bs0 ++ numB 1 (headP last x)) := ⟨by rw [HH.out]; simp⟩
     rw [EB.out] at hw2 ho2
     have IW2 := asd hw2
     have NS := asd (not_wS HI.out HRn.out ho2)
     have NB := asd (not_wSb HI.out BXn.out (Nat.le_refl _) ho2)
     have BX2 := asd (blk_chg BXn.out hc2 (fun hs => by have := (HI.out.low _ hs).2; omega))
     have HR2 := asd (R_chgB HRn.out hc2 (fun k hk => (HI.out.low k hk).2))
     have HC2 := asd ((Chg.of_below HBn.out (wS g (.slice A0 bs0.length c0))).trans hc2)
     have OW2 : Aside0 (∀ k, wS g (.slice A2 (bs0 ++ numB 1 (headP last x)).length c2) k → wS g (.slice A0 bs0.length c0) k ∨ w.heap.size ≤ k) := ⟨fun k hk => hk.elim (fun h => .inl (.inl h)) (fun h => (ho2 k h).imp (fun q => q) (fun q => Nat.le_trans (below_size HBn.out) q))⟩
     clear hw2 hc2 ho2 BXn HRn HBn C1 EB
     go_wp2_with fail
     refine (calls_of_args (by simp [alloc_size1]) (wput_calls w2 base g 137 [.int .i64 last] A2 c2 (bs0 ++ numB 1 (headP last x)) 7 7 A1 c1 ([x.f0, x.f3] : List Int) rfl (by omega) (by omega) IW2.out (C_ofR HR2.out) NS.out (by have := LB.out; rw [List.length_append, numB_len]; simp; omega) (by simp) (fun n hn => rest_fits HO.out n (by rw [HX.out]; exact hn)))).mono ?_
     rintro e w3 ⟨rfl, A3, c3, hw3, hc3, ho3⟩
     have EB : Aside0 ((bs0 ++ numB 1 (headP last x)) ++ ((([x.f0, x.f3] : List Int)).map (numB 7)).flatten = bs0 ++ entP last x) := ⟨by unfold entP; rw [HX.out, List.append_assoc]⟩
     rw [EB.out] at hw3 ho3
     have IW3 := asd hw3
     have BX3 := asd (blk_chg BX2.out hc3 NB.out)
     have HC3 := asd (HC2.out.then_ hc3 (fun k hk => OW2.out k hk))
     have OW3 : Aside0 (∀ k, (Value.slice A3 (bs0 ++ entP last x).length c3).ownBlock = some k → wS g (.slice A0 bs0.length c0) k ∨ w.heap.size ≤ k) := ⟨fun k hk => (ho3 k hk).elim (fun h => OW2.out k h) (fun h => .inr (Nat.le_trans HC2.out.size h))⟩
     clear hw3 hc3 ho3 BX2 HR2 HC2 OW2 IW2 NS NB EB
     have hx0 := (blk_cell BX3.out 0).trans rfl
     have hl2 := (blk_cell IW3.out.blk 2).trans rfl
     have hf2 := blk_frozen IW3.out.blk 2
     go_wp2
     go_end0
     exact ⟨rfl, A3, c3, IW3.out.setR 0 (.int .i64 x.f0), HC3.out.set_ (p := ⟨g, 2, none⟩) (.inl (.inl rfl)) _, OW3.out⟩
   ·by_cases b0 : x.f3 = 0
    ·have o3 := or32 (x.f1) (by omega) (by omega) (by omega)
     have HH : Aside0 (headP last x = x.f1 + 32) := ⟨by unfold headP headT; (rw [if_neg t0, if_neg t1, if_neg a0, if_pos b0]) <;> omega⟩
     have HX : Aside0 (restP last x = ([x.f0, x.f2] : List Int)) := ⟨by unfold restP restT restN; rw [if_neg t0, if_neg t1, if_neg a0, if_pos b0]; rfl⟩
     have d0 : (x.f0 == last) = false := beq_eq_false_iff_ne.2 t0
     have d1 : (x.f0 == last + 1) = false := beq_eq_false_iff_ne.2 t1
     have d2 : (x.f2 == 0) = false := beq_eq_false_iff_ne.2 a0
     have d3 : (x.f3 == 0) = true := beq_iff_eq.2 b0
     clear t0 a0 b0 t1
     have hl2 := (blk_cell (HI.out.below HB.out).blk 2).trans rfl
     go_enter Try.func91, Try.ntmps91
     go_wp2_with (first | (at_builtin; refine Kd.R_append (Kd.int .i64) (w0 := w) w.heap.size rfl (.tmp 10) (.tmp 13) 23 3 (.int .i64 0) 8 rfl Try.underlying23 info3 rfl (by decide) (by omega) _ ([] : List Int) x.f0 [.int .i64 x.f0] (fun _ => True) (fun _ => False) rfl (by simp [Act.eval, alloc_size1]) rfl (fun _ hk => hk.elim) (fun _ _ => trivial) HR.out HB.out (below_size HB.out) (by simp) ?_; intro v1 w1 ho hb hg hat; have hb0 := blk_grown BX.out hg (Kd.R_ne HR.out BX.out (by decide)); clear HR HB BX; clear hx0 hx1 hx2 hx3; obtain ⟨A1, c1, rfl⟩ := Kd.R_slice ho; have HR := asd ho; have HB := asd hb; have BX := asd hb0; have hl2 := (blk_cell (HI.out.below hb).blk 2).trans rfl; clear ho hb hg hat hb0; have hx0 := (blk_cell BX.out 0).trans rfl; have hx1 := (blk_cell BX.out 1).trans rfl; have hx2 := (blk_cell BX.out 2).trans rfl; have hx3 := (blk_cell BX.out 3).trans rfl) | (at_builtin; refine Kd.R_append (Kd.int .i64) (w0 := w) w.heap.size rfl (.tmp 37) (.tmp 40) 23 3 (.int .i64 0) 8 rfl Try.underlying23 info3 rfl (by decide) (by omega) _ ([x.f0] : List Int) x.f2 [.int .i64 x.f2] (fun _ => True) (fun _ => False) rfl (by simp [Act.eval, alloc_size1]) rfl (fun _ hk => hk.elim) (fun _ _ => trivial) HR.out HB.out (below_size HB.out) (by simp) ?_; intro v1 w1 ho hb hg hat; have hb0 := blk_grown BX.out hg (Kd.R_ne HR.out BX.out (by decide)); clear HR HB BX; clear hx0 hx1 hx2 hx3; obtain ⟨A1, c1, rfl⟩ := Kd.R_slice ho; have HR := asd ho; have HB := asd hb; have BX := asd hb0; have hl2 := (blk_cell (HI.out.below hb).blk 2).trans rfl; clear ho hb hg hat hb0; have hx0 := (blk_cell BX.out 0).trans rfl; have hx1 := (blk_cell BX.out 1).trans rfl; have hx2 := (blk_cell BX.out 2).trans rfl; have hx3 := (blk_cell BX.out 3).trans rfl))
     have BXn := asd (blk_alloc BX.out (.cells #[.int .i64 (x.f1 + 32)] 3))
     have HRn := asd (Kd.R_alloc HR.out (.cells #[.int .i64 (x.f1 + 32)] 3))
     have HBn := asd (below_step HB.out (below_alloc (Below.refl _ _) (.cells #[.int .i64 (x.f1 + 32)] 3)))
     have C1 := asd (C_one_int (heap_alloc_new w1 (.cells #[.int .i64 (x.f1 + 32)] 3)))
     have SZn := asd (below_size HB.out)
     clear HR HB BX hl2
     clear hx0 hx1 hx2 hx3
     refine (calls_of_args (by simp [alloc_size1]) (wput_calls _ base g 137 [.int .i64 last] A0 c0 bs0 1 1 _ 1 [x.f1 + 32] rfl (by omega) (by omega) (HI.out.below HBn.out) C1.out (fun ad ha _ hs => by cases ha; have h1 := (HI.out.low _ hs).2; have h2 := SZn.out; simp only at h1; omega) (by have := LB.out; simp; omega) (by simp) (fun n hn => by rw [List.mem_singleton.1 hn, ← HH.out]; exact headP_fits HO.out))).mono ?_
     rintro e w2 ⟨rfl, A2, c2, hw2, hc2, ho2⟩
     have EB : Aside0 (bs0 ++ (([x.f1 + 32] : List Int).map (numB 1)).flatten = bs0 ++ numB 1 (headP last x)) := ⟨by rw [HH.out]; simp⟩
     rw [EB.out] at hw2 ho2
     have IW2 := asd hw2
     have NS := asd (not_wS HI.out HRn.out ho2)
     have NB := asd (not_wSb HI.out BXn.out (Nat.le_refl _) ho2)
     have BX2 := asd (blk_chg BXn.out hc2 (fun hs => by have := (HI.out.low _ hs).2; omega))
     have HR2 := asd (R_chgB HRn.out hc2 (fun k hk => (HI.out.low k hk).2))
     have HC2 := asd ((Chg.of_below HBn.out (wS g (.slice A0 bs0.length c0))).trans hc2)
     have OW2 : Aside0 (∀ k, wS g (.slice A2 (bs0 ++ numB 1 (headP last x)).length c2) k → wS g (.slice A0 bs0.length c0) k ∨ w.heap.size ≤ k) := ⟨fun k hk => hk.elim (fun h => .inl (.inl h)) (fun h => (ho2 k h).imp (fun q => q) (fun q => Nat.le_trans (below_size HBn.out) q))⟩
     clear hw2 hc2 ho2 BXn HRn HBn C1 EB
     go_wp2_with fail
     refine (calls_of_args (by simp [alloc_size1]) (wput_calls w2 base g 137 [.int .i64 last] A2 c2 (bs0 ++ numB 1 (headP last x)) 7 7 A1 c1 ([x.f0, x.f2] : List Int) rfl (by omega) (by omega) IW2.out (C_ofR HR2.out) NS.out (by have := LB.out; rw [List.length_append, numB_len]; simp; omega) (by simp) (fun n hn => rest_fits HO.out n (by rw [HX.out]; exact hn)))).mono ?_
     rintro e w3 ⟨rfl, A3, c3, hw3, hc3, ho3⟩
     have EB : Aside0 ((bs0 ++ numB 1 (headP last x)) ++ ((([x.f0, x.f2] : List Int)).map (numB 7)).flatten = bs0 ++ entP last x) := ⟨by unfold entP; rw [HX.out, List.append_assoc]⟩
     rw [EB.out] at hw3 ho3
     have IW3 := asd hw3
     have BX3 := asd (blk_chg BX2.out hc3 NB.out)
     have HC3 := asd (HC2.out.then_ hc3 (fun k hk => OW2.out k hk))
     have OW3 : Aside0 (∀ k, (Value.slice A3 (bs0 ++ entP last x).length c3).ownBlock = some k → wS g (.slice A0 bs0.length c0) k ∨ w.heap.size ≤ k) := ⟨fun k hk => (ho3 k hk).elim (fun h => OW2.out k h) (fun h => .inr (Nat.le_trans HC2.out.size h))⟩
     clear hw3 hc3 ho3 BX2 HR2 HC2 OW2 IW2 NS NB EB
     have hx0 := (blk_cell BX3.out 0).trans rfl
     have hl2 := (blk_cell IW3.out.blk 2).trans rfl
     have hf2 := blk_frozen IW3.out.blk 2
     go_wp2
     go_end0
     exact ⟨rfl, A3, c3, IW3.out.setR 0 (.int .i64 x.f0), HC3.out.set_ (p := ⟨g, 2, none⟩) (.inl (.inl rfl)) _, OW3.out⟩
    ·have HH : Aside0 (headP last x = x.f1) := ⟨by unfold headP headT; (rw [if_neg t0, if_neg t1, if_neg a0, if_neg b0]) <;> omega⟩
     have HX : Aside0 (restP last x = ([x.f0, x.f2, x.f3] : List Int)) := ⟨by unfold restP restT restN; rw [if_neg t0, if_neg t1, if_neg a0, if_neg b0]; rfl⟩
     have d0 : (x.f0 == last) = false := beq_eq_false_iff_ne.2 t0
     have d1 : (x.f0 == last + 1) = false := beq_eq_false_iff_ne.2 t1
     have d2 : (x.f2 == 0) = false := beq_eq_false_iff_ne.2 a0
     have d3 : (x.f3 == 0) = false := beq_eq_false_iff_ne.2 b0
     clear t0 a0 b0 t1
     have hl2 := (blk_cell (HI.out.below HB.out).blk 2).trans rfl
     go_enter Try.func91, Try.ntmps91
     go_wp2_with (first | (at_builtin; refine Kd.R_append (Kd.int .i64) (w0 := w) w.heap.size rfl (.tmp 10) (.tmp 13) 23 3 (.int .i64 0) 8 rfl Try.underlying23 info3 rfl (by decide) (by omega) _ ([] : List Int) x.f0 [.int .i64 x.f0] (fun _ => True) (fun _ => False) rfl (by simp [Act.eval, alloc_size1]) rfl (fun _ hk => hk.elim) (fun _ _ => trivial) HR.out HB.out (below_size HB.out) (by simp) ?_; intro v1 w1 ho hb hg hat; have hb0 := blk_grown BX.out hg (Kd.R_ne HR.out BX.out (by decide)); clear HR HB BX; clear hx0 hx1 hx2 hx3; obtain ⟨A1, c1, rfl⟩ := Kd.R_slice ho; have HR := asd ho; have HB := asd hb; have BX := asd hb0; have hl2 := (blk_cell (HI.out.below hb).blk 2).trans rfl; clear ho hb hg hat hb0; have hx0 := (blk_cell BX.out 0).trans rfl; have hx1 := (blk_cell BX.out 1).trans rfl; have hx2 := (blk_cell BX.out 2).trans rfl; have hx3 := (blk_cell BX.out 3).trans rfl) | (at_builtin; refine Kd.R_append (Kd.int .i64) (w0 := w) w.heap.size rfl (.tmp 37) (.tmp 40) 23 3 (.int .i64 0) 8 rfl Try.underlying23 info3 rfl (by decide) (by omega) _ ([x.f0] : List Int) x.f2 [.int .i64 x.f2] (fun _ => True) (fun _ => False) rfl (by simp [Act.eval, alloc_size1]) rfl (fun _ hk => hk.elim) (fun _ _ => trivial) HR.out HB.out (below_size HB.out) (by simp) ?_; intro v1 w1 ho hb hg hat; have hb0 := blk_grown BX.out hg (Kd.R_ne HR.out BX.out (by decide)); clear HR HB BX; clear hx0 hx1 hx2 hx3; obtain ⟨A1, c1, rfl⟩ := Kd.R_slice ho; have HR := asd ho; have HB := asd hb; have BX := asd hb0; have hl2 := (blk_cell (HI.out.below hb).blk 2).trans rfl; clear ho hb hg hat hb0; have hx0 := (blk_cell BX.out 0).trans rfl; have hx1 := (blk_cell BX.out 1).trans rfl; have hx2 := (blk_cell BX.out 2).trans rfl; have hx3 := (blk_cell BX.out 3).trans rfl) | (at_builtin; refine Kd.R_append (Kd.int .i64) (w0 := w) w.heap.size rfl (.tmp 47) (.tmp 50) 23 3 (.int .i64 0) 8 rfl Try.underlying23 info3 rfl (by decide) (by omega) _ ([x.f0, x.f2] : List Int) x.f3 [.int .i64 x.f3] (fun _ => True) (fun _ => False) rfl (by simp [Act.eval, alloc_size1]) rfl (fun _ hk => hk.elim) (fun _ _ => trivial) HR.out HB.out (below_size HB.out) (by simp) ?_; intro v1 w1 ho hb hg hat; have hb0 := blk_grown BX.out hg (Kd.R_ne HR.out BX.out (by decide)); clear HR HB BX; clear hx0 hx1 hx2 hx3; obtain ⟨A1, c1, rfl⟩ := Kd.R_slice ho; have HR := asd ho; have HB := asd hb; have BX := asd hb0; have hl2 := (blk_cell (HI.out.below hb).blk 2).trans rfl; clear ho hb hg hat hb0; have hx0 := (blk_cell BX.out 0).trans rfl; have hx1 := (blk_cell BX.out 1).trans rfl; have hx2 := (blk_cell BX.out 2).trans rfl; have hx3 := (blk_cell BX.out 3).trans rfl))
     have BXn := asd (blk_alloc BX.out (.cells #[.int .i64 (x.f1)] 3))
     have HRn := asd (Kd.R_alloc HR.out (.cells #[.int .i64 (x.f1)] 3))
     have HBn := asd (below_step HB.out (below_alloc (Below.refl _ _) (.cells #[.int .i64 (x.f1)] 3)))
     have C1 := asd (C_one_int (heap_alloc_new w1 (.cells #[.int .i64 (x.f1)] 3)))
     have SZn := asd (below_size HB.out)
     clear HR HB BX hl2
     clear hx0 hx1 hx2 hx3
     refine (calls_of_args (by simp [alloc_size1]) (wput_calls _ base g 137 [.int .i64 last] A0 c0 bs0 1 1 _ 1 [x.f1] rfl (by omega) (by omega) (HI.out.below HBn.out) C1.out (fun ad ha _ hs => by cases ha; have h1 := (HI.out.low _ hs).2; have h2 := SZn.out; simp only at h1; omega) (by have := LB.out; simp; omega) (by simp) (fun n hn => by rw [List.mem_singleton.1 hn, ← HH.out]; exact headP_fits HO.out))).mono ?_
     rintro e w2 ⟨rfl, A2, c2, hw2, hc2, ho2⟩
     have EB : Aside0 (bs0 ++ (([x.f1] : List Int).map (numB 1)).flatten = bs0 ++ numB 1 (headP last x)) := ⟨by rw [HH.out]; simp⟩
     rw [EB.out] at hw2 ho2
     have IW2 := asd hw2
     have NS := asd (not_wS HI.out HRn.out ho2)
     have NB := asd (not_wSb HI.out BXn.out (Nat.le_refl _) ho2)
     have BX2 := asd (blk_chg BXn.out hc2 (fun hs => by have := (HI.out.low _ hs).2; omega))
     have HR2 := asd (R_chgB HRn.out hc2 (fun k hk => (HI.out.low k hk).2))
     have HC2 := asd ((Chg.of_below HBn.out (wS g (.slice A0 bs0.length c0))).trans hc2)
     have OW2 : Aside0 (∀ k, wS g (.slice A2 (bs0 ++ numB 1 (headP last x)).length c2) k → wS g (.slice A0 bs0.length c0) k ∨ w.heap.size ≤ k) := ⟨fun k hk => hk.elim (fun h => .inl (.inl h)) (fun h => (ho2 k h).imp (fun q => q) (fun q => Nat.le_trans (below_size HBn.out) q))⟩
     clear hw2 hc2 ho2 BXn HRn HBn C1 EB
     go_wp2_with fail
     refine (calls_of_args (by simp [alloc_size1]) (wput_calls w2 base g 137 [.int .i64 last] A2 c2 (bs0 ++ numB 1 (headP last x)) 7 7 A1 c1 ([x.f0, x.f2, x.f3] : List Int) rfl (by omega) (by omega) IW2.out (C_ofR HR2.out) NS.out (by have := LB.out; rw [List.length_append, numB_len]; simp; omega) (by simp) (fun n hn => rest_fits HO.out n (by rw [HX.out]; exact hn)))).mono ?_
     rintro e w3 ⟨rfl, A3, c3, hw3, hc3, ho3⟩
     have EB : Aside0 ((bs0 ++ numB 1 (headP last x)) ++ ((([x.f0, x.f2, x.f3] : List Int)).map (numB 7)).flatten = bs0 ++ entP last x) := ⟨by unfold entP; rw [HX.out, List.append_assoc]⟩
     rw [EB.out] at hw3 ho3
     have IW3 := asd hw3
     have BX3 := asd (blk_chg BX2.out hc3 NB.out)
     have HC3 := asd (HC2.out.then_ hc3 (fun k hk => OW2.out k hk))
     have OW3 : Aside0 (∀ k, (Value.slice A3 (bs0 ++ entP last x).length c3).ownBlock = some k → wS g (.slice A0 bs0.length c0) k ∨ w.heap.size ≤ k) := ⟨fun k hk => (ho3 k hk).elim (fun h => OW2.out k h) (fun h => .inr (Nat.le_trans HC2.out.size h))⟩
     clear hw3 hc3 ho3 BX2 HR2 HC2 OW2 IW2 NS NB EB
     have hx0 := (blk_cell BX3.out 0).trans rfl
     have hl2 := (blk_cell IW3.out.blk 2).trans rfl
     have hf2 := blk_frozen IW3.out.blk 2
     go_wp2
     go_end0
     exact ⟨rfl, A3, c3, IW3.out.setR 0 (.int .i64 x.f0), HC3.out.set_ (p := ⟨g, 2, none⟩) (.inl (.inl rfl)) _, OW3.out⟩
end Go.Proofs.Ytalimpniimgheaa.Fn
namespace Go.Proofs.Ytalimpniimgheaa.Fn
open Go.RowKit Go.Proofs.YtalimpniimgheaaW.PrintWords Go.Proofs.YtalimpniimgheaaW.PrintLast Go.Proofs.YtalimpniimgheaaW.PrintMore
set_option linter.unusedVariables false
set_option linter.unusedSimpArgs false
def pput12T : Bool × List (List Nat × List Nat) := (true, [([], []), ([0], [0]), ([1], [1]), ([], []), ([3], [3]), ([4], [4]), ([5], [5]), ([6, 6], [6]), ([7], [7]), ([2, 8, 7], [2, 8])])
def pput12B : List Nat := [0, 1, 3, 0, 8, 24, 56, 120, 248, 511]
theorem pput12_tab : rtab .any (opsOf Try.f53 12) = pput12T := by kernel_rfl
theorem pput12_bits : waitsOk pput12T.2 pput12B = true := by kernel_rfl
theorem bodyP_bytes (l : List S65) : ∀ last, Bytes (bodyP last l) := by
 induction l with
 | nil => intro last c hc; simp [bodyP] at hc
 | cons x l ih =>
  intro last c hc
  rcases List.mem_append.1 hc with h | h
  ·rcases List.mem_append.1 h with h | h
   ·exact numB_bytes _ _ c h
   ·obtain ⟨b, hb, hcb⟩ := List.mem_flatten.1 h
    obtain ⟨n, _, rfl⟩ := List.mem_map.1 hb
    exact numB_bytes _ _ c hcb
  ·exact ih _ c h
theorem allP_bytes (l : List S65) : Bytes (allP l) := by
 intro c hc
 rcases List.mem_append.1 hc with h | h
 ·exact numB_bytes _ _ c h
 ·exact bodyP_bytes l 0 c h
theorem fits4 (n : Nat) (h : n ≤ 4000) : Fits 4 (n : Int) := by
 have e : (256 : Int) ^ 4 = 4294967296 := by decide
 exact ⟨by omega, by omega⟩
def PutAns (w w' : World) (e : Ending) (r : List Int × Int) : Prop := ∃ A' c', e = .returned (.tuple #[.slice A' r.1.length c', .int .i64 r.2]) ∧ r.1.length ≤ c' ∧ Kd.C (Kd.int .u8) w' A' r.1.length r.1 ∧ Below w.heap.size w w'
set_option maxHeartbeats 8000000 in
set_option maxRecDepth 100000 in
theorem pPut_calls (A0 : Option Addr) (c0 : Nat) (l : List S65) (w : World) (hr : Kd.C k65 w A0 l.length l) (hc : l.length ≤ c0) (hl : l.length ≤ 4000) :
  Calls Try.prog 53 #[.slice A0 l.length c0] w fun e w' => PutAns w w' e (putP l) := by
 obtain ⟨k, hk⟩ := odds_ev l (by omega)
 have OD := asd (journal_Entry_88.calls k A0 c0 l _ w hr hc hk)
 by_cases hok : ∀ x, x ∈ l → OkP x
 ·have e1 : putP l = (allP l ++ numB 2 (sumP (allP l)), 0) := by unfold putP; rw [if_pos hok, if_pos (by omega)]
  rw [decide_eq_true hok] at OD
  rw [e1]
  have HR := asd hr
  have HL := asd hl
  have OK := asd hok
  have l99 : (l.length : Int) ≤ 4000 := by omega
  have d1 : decide ((l.length : Int) > 65536) = false := decide_eq_false (by omega)
  have d2 : decide (65536 < (l.length : Int)) = false := decide_eq_false (by omega)
  have hu := Try.underlying65
  have hu2 := Try.underlying137
  clear hk hr hc hl hok e1
  go_enter Try.func53, Try.ntmps53
  go_wp2_with (first | (go_at_call 88; refine OD.out.mono ?_; rintro e w1 ⟨rfl, hb⟩; have HB1 := asd hb; clear hb))
  have XW : Aside0 (IsW ((w1.alloc (.cells #[.int .i64 0, .slice none 0 0, .int .i64 0] 137)).alloc (.cells #[.int .i64 l.length] 3)) w1.heap.size w1.heap.size 137 [.int .i64 0] 0 none 0 []) := ⟨⟨blk_alloc (heap_alloc_new w1 (.cells #[.int .i64 0, .slice none 0 0, .int .i64 0] 137)) _, Nat.le_refl _, Kd.R_nil _ _ _ _ _⟩⟩
  have XB := asd (below_alloc (below_alloc (Below.refl w1.heap.size w1) (.cells #[.int .i64 0, .slice none 0 0, .int .i64 0] 137)) (.cells #[.int .i64 l.length] 3))
  have C1 := asd (C_one_int (heap_alloc_new (w1.alloc (.cells #[.int .i64 0, .slice none 0 0, .int .i64 0] 137)) (.cells #[.int .i64 l.length] 3)))
  have SZ1 := alloc_size1 w1 (.cells #[.int .i64 0, .slice none 0 0, .int .i64 0] 137)
  rw [SZ1] at C1
  clear SZ1
  generalize (w1.alloc (.cells #[.int .i64 0, .slice none 0 0, .int .i64 0] 137)).alloc (.cells #[.int .i64 l.length] 3) = w2 at XW XB C1 ⊢
  refine (wput_calls w2 w1.heap.size w1.heap.size 137 [.int .i64 0] none 0 [] 4 4 (some ⟨w1.heap.size + 1, 0, none⟩) 1 [(l.length : Int)] rfl (by omega) (by omega) XW.out C1.out (fun ad ha _ hs => by cases ha; rcases hs with h | h; (simp only at h; omega); (simp [Value.ownBlock] at h)) (by simp) (by simp) (fun n hn => by rw [List.mem_singleton.1 hn]; exact fits4 _ (by have := HL.out; omega))).mono ?_
  rintro e w3 ⟨rfl, A3, c3, hw3, hc3, ho3⟩
  have EB : Aside0 (([] : List Int) ++ (([(l.length : Int)] : List Int).map (numB 4)).flatten = numB 4 (l.length : Int) ++ bodyP 0 (l.take 0)) := ⟨by simp [bodyP]⟩
  rw [EB.out] at hw3
  have IW3 := asd hw3
  have HB3 : Aside0 (Below w1.heap.size w1 w3) := ⟨((Chg.of_belowB XB.out).then_ hc3 (fun k hk => .inl (XW.out.low k hk).1)).to_below (fun _ h => h) (Nat.le_refl _)⟩
  have HR1 := asd (Kd.C_below HR.out HB1.out)
  clear hw3 hc3 ho3 EB XW XB C1 OD
  generalize hg : w1.heap.size = g at IW3 ⊢
  have HG := asd hg
  clear hg
  go_wp2
  go_loopw [25] (fun v25 wr => ∃ (i : Nat) (A : Option Addr) (c : Nat), v25 = .int .i64 i ∧ Aside0 (i ≤ l.length) ∧ Aside0 (IsW wr w1.heap.size g 137 [.int .i64 (lastP 0 (l.take i))] 0 A c (numB 4 (l.length : Int) ++ bodyP 0 (l.take i))) ∧ Aside0 (Below w1.heap.size w1 wr)) (fun v => fun _ => l.length - (intOf v).toNat)
  case atStart => exact ⟨0, A3, c3, rfl, ⟨Nat.zero_le _⟩, ⟨by rw [HG.out]; exact IW3.out⟩, HB3⟩
  case round =>
   clear IW3 HB3
   obtain ⟨i, A, c, rfl, HX, BP, HB⟩ := hrel
   have i99 : (i : Int) ≤ 4000 := by have := HX.out; omega
   by_cases hlt : i < l.length
   ·have q0 : ((i : Int) < (l.length : Int)) = True := eq_true (by omega)
    have q1 : decide ((i : Int) < (l.length : Int)) = true := decide_eq_true (by omega)
    have q2 : decide (i < l.length) = true := decide_eq_true hlt
    obtain ⟨ad, rfl, y0, y1, y2, y3⟩ := at_T65 (Kd.C_below HR1.out HB.out) (i : Int) (by omega) (by omega)
    have RD : Aside0 (rd_T65 l (i : Int) = l.getD i z65) := ⟨by unfold rd_T65; rw [Int.toNat_natCast]⟩
    simp only [Int.toNat_natCast] at y0 y1 y2 y3
    have HM : Aside0 (OkP (rd_T65 l (i : Int))) := ⟨by rw [RD.out, getD_lt l z65 hlt]; exact OK.out _ (List.getElem_mem _)⟩
    have TS : Aside0 (l.take (i + 1) = l.take i ++ [rd_T65 l (i : Int)]) := ⟨by rw [RD.out, List.take_succ_eq_append_getElem hlt, getD_lt l z65 hlt]⟩
    clear RD
    generalize rd_T65 l (i : Int) = x at y0 y1 y2 y3 HM TS
    have LB := asd (lastP_bd (last := 0) (l := l.take i) (by omega) (by omega) (fun x hx => OK.out x (List.mem_of_mem_take hx)))
    have BL : Aside0 ((numB 4 (l.length : Int) ++ bodyP 0 (l.take i)).length ≤ 8000000) := ⟨by
     have := bodyP_len (l.take i) 0
     rw [List.length_take] at this
     rw [List.length_append, numB_len]
     have := HL.out; omega⟩
    have HLT := asd hlt
    have BPa := asd (BP.out.below (below_alloc (Below.refl _ _) (.cells #[.int .i64 x.f0, .int .i64 x.f1, .int .i64 x.f2, .int .i64 x.f3] 65)))
    have HBa := asd (HB.out.alloc (below_size HB.out) (.cells #[.int .i64 x.f0, .int .i64 x.f1, .int .i64 x.f2, .int .i64 x.f3] 65))
    have BXa := asd (heap_alloc_new wr (.cells #[.int .i64 x.f0, .int .i64 x.f1, .int .i64 x.f2, .int .i64 x.f3] 65))
    clear hlt BP HB
    go_wp2_with fail
    clear y0 y1 y2 y3
    generalize wr.alloc (.cells #[.int .i64 x.f0, .int .i64 x.f1, .int .i64 x.f2, .int .i64 x.f3] 65) = wa at BPa HBa BXa ⊢
    refine (pentry_calls wa w1.heap.size g (lastP 0 (l.take i)) A c (numB 4 (l.length : Int) ++ bodyP 0 (l.take i)) x BPa.out HM.out LB.out.1 LB.out.2 BL.out).mono ?_
    rintro e w5 ⟨rfl, A5, c5, hw5, hc5, ho5⟩
    have EB : Aside0 (numB 4 (l.length : Int) ++ bodyP 0 (l.take i) ++ entP (lastP 0 (l.take i)) x = numB 4 (l.length : Int) ++ bodyP 0 (l.take (i + 1))) := ⟨by rw [TS.out, bodyP_snoc, List.append_assoc]⟩
    have EL : Aside0 (x.f0 = lastP 0 (l.take (i + 1))) := ⟨by rw [TS.out, lastP_snoc]⟩
    rw [EB.out, EL.out] at hw5
    have IW5 := asd hw5
    have HB5 : Aside0 (Below w1.heap.size w1 w5) := ⟨((Chg.of_belowB HBa.out).then_ hc5 (fun k hk => .inl (BPa.out.low k hk).1)).to_below (fun _ h => h) (Nat.le_refl _)⟩
    clear hw5 hc5 ho5 EB EL
    go_wp2
    go_roundw
    case rel => exact ⟨i + 1, A5, c5, by go_num, ⟨HLT.out⟩, IW5, HB5⟩
    case measure => have := HLT.out; simp [intOf]; omega
   ·have q1 : decide ((i : Int) < (l.length : Int)) = false := decide_eq_false (by omega)
    have q2 : decide (i < l.length) = false := decide_eq_false hlt
    have EA : Aside0 (numB 4 (l.length : Int) ++ bodyP 0 (l.take i) = allP l) := ⟨by rw [List.take_of_length_le (by omega)]; rfl⟩
    rw [EA.out] at BP
    clear hlt EA
    go_wp2
    refine start_ (n := 10) (S := fun w' => True) (ds := [9]) #[false, false, false, false, false, false, false, false, false, false] (by kernel_rfl) rfl rfl trivial (fun hHeld => ?_); refine with_tabW pput12_tab pput12_bits (fun HT_ HW_ => ?_)
    have IW := asd (BP.out.below (below_drew1 (Below.refl _ _)))
    have HB2 := asd (below_drew1 HB.out)
    clear BP HB
    generalize wr.drew = wd at IW HB2 hHeld ⊢
    refine pure_ (i := 0) (N := (some 33)) (v := ?_) (a' := ?_) #[true, false, false, false, false, false, false, false, false, false] rfl rfl (any_of HT_.out (by kernel_rfl)) (fun _ _ _ h => h) (Or.inl ⟨by rfl, ?_⟩) ?_ ?_
    rotate_left
    ·intro w'
     go_simp
     with_reducible rfl
    rotate_left
    ·simp only [Act.put, sB, i64_w, i32_w]
     rfl
    refine pure_ (i := 1) (N := (some 34)) (v := ?_) (a' := ?_) #[true, true, false, false, false, false, false, false, false, false] rfl rfl (any_of HT_.out (by kernel_rfl)) (fun _ _ _ h => h) (Or.inl ⟨by rfl, ?_⟩) ?_ ?_
    rotate_left
    ·intro w'
     go_simp
     with_reducible rfl
    rotate_left
    ·simp only [Act.put, sB, i64_w, i32_w]
     rfl
    refine pure_ (i := 2) (N := (some 35)) (v := ?_) (a' := ?_) #[true, true, true, false, false, false, false, false, false, false] rfl rfl (any_of HT_.out (by kernel_rfl)) (fun _ _ _ h => h) (Or.inl ⟨by rfl, ?_⟩) ?_ ?_
    rotate_left
    ·intro w'
     go_simp
     with_reducible rfl
    rotate_left
    ·simp only [Act.put, sB, i64_w, i32_w]
     rfl
    refine pure_ (i := 3) (N := (some 36)) (v := ?_) (a' := ?_) #[true, true, true, true, false, false, false, false, false, false] rfl rfl (any_of HT_.out (by kernel_rfl)) (fun _ _ _ h => h) (Or.inl ⟨by rfl, ?_⟩) ?_ ?_
    rotate_left
    ·intro w'
     go_simp
     with_reducible rfl
    rotate_left
    ·simp only [Act.put, sB, i64_w, i32_w]
     rfl
    refine pure_ (i := 4) (N := (some 37)) (v := ?_) (a' := ?_) #[true, true, true, true, true, false, false, false, false, false] rfl rfl (any_of HT_.out (by kernel_rfl)) (fun _ _ _ h => h) (Or.inl ⟨by rfl, ?_⟩) ?_ ?_
    rotate_left
    ·intro w'
     go_simp
     with_reducible rfl
    rotate_left
    ·simp only [Act.put, sB, i64_w, i32_w]
     rfl
    refine pure_ (i := 5) (N := (some 38)) (v := ?_) (a' := ?_) #[true, true, true, true, true, true, false, false, false, false] rfl rfl (any_of HT_.out (by kernel_rfl)) (fun _ _ _ h => h) (Or.inl ⟨by rfl, ?_⟩) ?_ ?_
    rotate_left
    ·intro w'
     go_simp
     with_reducible rfl
    rotate_left
    ·simp only [Act.put, sB, i64_w, i32_w]
     rfl
    refine one_ (i := 6) (N := (some 39)) #[true, true, true, true, true, true, true, false, false, false] rfl rfl (one_of HT_.out (by kernel_rfl)) (by decide) (fun K hK => ?_)
    refine goes_ Try.func92 (by kernel_rfl) rfl #[.pointer (some ⟨g, 0, none⟩)] (by rfl) rfl rfl (by simp [Act.eval]) ?_
    refine (cBytes_calls wd w1.heap.size g 137 _ 0 A c _ IW.out (by have := allP_len l; have := HL.out; omega)).mono ?_
    rintro e wq ⟨v, rfl, hr, hb⟩
    obtain ⟨A5, c5, rfl⟩ := Kd.R_slice hr
    have HR5 := asd hr
    have IW2 := asd (IW.out.below hb)
    have HB3 := asd (below_step HB2.out hb)
    clear hr hb
    refine ⟨_, rfl, ?_⟩
    refine hK.out _ _ trivial (fun hHeld => ?_)
    clear hK K
    refine norm_ (a' := ?_) ?_ ?_
    rotate_left
    ·show Act.put _ (some 39) _ = _
     simp only [Act.put, sB, i64_w, i32_w]
     rfl
    refine one_ (i := 7) (N := (some 40)) #[true, true, true, true, true, true, true, true, false, false] rfl rfl (one_of HT_.out (by kernel_rfl)) (by decide) (fun K hK => ?_)
    refine goes_ Try.func59 (by kernel_rfl) rfl #[.slice A5 (allP l).length c5] (by rfl) rfl rfl (by simp [Act.eval]) ?_
    refine (psum_calls A5 c5 (allP l) wq (C_ofR HR5.out) (Kd.R_reads' HR5.out).2.1 (allP_bytes l) (by have := allP_len l; have := HL.out; omega)).mono ?_
    rintro e wz ⟨rfl, hb⟩
    have IW3 := asd (IW2.out.below hb)
    have HB4 := asd (below_step HB3.out hb)
    clear hb HR5
    refine ⟨_, rfl, ?_⟩
    refine hK.out _ _ trivial (fun hHeld => ?_)
    clear hK K
    refine norm_ (a' := ?_) ?_ ?_
    rotate_left
    ·show Act.put _ (some 40) _ = _
     simp only [Act.put, sB, i64_w, i32_w]
     rfl
    refine one_ (i := 8) (N := (some 41)) #[true, true, true, true, true, true, true, true, true, false] rfl rfl (one_of HT_.out (by kernel_rfl)) (by decide) (fun K hK => ?_)
    refine value_ (w1 := ?_) (v := ?_) (by rfl) rfl ?_ ?_
    rotate_left 2
    ·go_simp
     constructor
     ·rfl
     ·rfl
    refine hK.out _ _ trivial (fun hHeld => ?_)
    clear hK K
    refine norm_ (a' := ?_) ?_ ?_
    rotate_left
    ·show Act.put _ (some 41) _ = _
     simp only [Act.put, sB, i64_w, i32_w]
     rfl
    have IW4 := asd (IW3.out.below (below_alloc (Below.refl _ _) (.cells #[.int .i64 (sumP (allP l))] 3)))
    have HB5 := asd (below_step HB4.out (below_alloc (Below.refl _ _) (.cells #[.int .i64 (sumP (allP l))] 3)))
    have C1 := asd (C_one_int (heap_alloc_new wz (.cells #[.int .i64 (sumP (allP l))] 3)))
    have NSZ : Aside0 (∀ k, wS g (.slice A (allP l).length c) k → k < wz.heap.size) := ⟨fun k hk => (IW3.out.low k hk).2⟩
    generalize wz.alloc (.cells #[.int .i64 (sumP (allP l))] 3) = wx at IW4 HB5 C1 hHeld ⊢
    generalize wz.heap.size = gz at C1 NSZ ⊢
    clear IW3 HB4 IW2 HB3
    refine last_ (i := 9) (N := (some 42)) #[true, true, true, true, true, true, true, true, true, true] rfl rfl (one_of HT_.out (by kernel_rfl)) (by decide) (fun K hK => ?_)
    refine goes_ Try.func90 (by kernel_rfl) rfl #[.pointer (some ⟨g, 0, none⟩), .int .i64 2, .slice (some ⟨gz, 0, none⟩) 1 1] (by rfl) rfl rfl (by simp [Act.eval]) ?_
    refine (wput_calls wx w1.heap.size g 137 _ A c (allP l) 2 2 (some ⟨gz, 0, none⟩) 1 [sumP (allP l)] rfl (by omega) (by omega) IW4.out C1.out (fun ad ha _ hs => by cases ha; have := NSZ.out _ hs; simp only at this; omega) (by have := allP_len l; have := HL.out; simp; omega) (by simp) (fun n hn => by rw [List.mem_singleton.1 hn]; exact sumP_fits _)).mono ?_
    rintro e wy ⟨rfl, A6, c6, hw6, hc6, ho6⟩
    have EB : Aside0 (allP l ++ (([sumP (allP l)] : List Int).map (numB 2)).flatten = allP l ++ numB 2 (sumP (allP l))) := ⟨by simp⟩
    rw [EB.out] at hw6
    have IW6 := asd hw6
    have HB6 : Aside0 (Below w1.heap.size w1 wy) := ⟨((Chg.of_belowB HB5.out).then_ hc6 (fun k hk => .inl (IW4.out.low k hk).1)).to_below (fun _ h => h) (Nat.le_refl _)⟩
    clear hw6 hc6 ho6 EB IW4 HB5 C1 NSZ
    refine ⟨_, rfl, ?_⟩
    refine hK.out _ _ ?_
    clear hK K
    refine norm_ (a' := ?_) ?_ ?_
    rotate_left
    ·show Act.put _ (some 42) _ = _
     simp only [Act.put, sB, i64_w, i32_w]
     rfl
    refine done_ (done_of HT_.out (by kernel_rfl)) ?_
    go_wp2_with (first | (go_at_call 92; refine (cBytes_calls wy w1.heap.size g 137 _ 0 A6 c6 _ IW6.out (by have := allP_len l; have := HL.out; rw [List.length_append, numB_len]; omega)).mono ?_; rintro e w8 ⟨v, rfl, hr, hb⟩; obtain ⟨A8, c8, rfl, hc8, hC8⟩ := Kd.R_reads hr; have C8 := asd (And.intro hc8 hC8); have HB8 := asd (below_step (below_step HB1.out HB6.out) hb); clear hr hb hc8 hC8))
    go_ret2
    exact ⟨A8, c8, by simp only [List.length_append]; rfl, C8.out.1, C8.out.2, HB8.out⟩
 ·have e1 : putP l = ([], 2) := by unfold putP; rw [if_neg hok]
  rw [decide_eq_false hok] at OD
  rw [e1]
  clear hk hr hc hl hok e1
  go_enter Try.func53, Try.ntmps53
  go_wp2_with (first | (go_at_call 88; refine OD.out.mono ?_; rintro e w1 ⟨rfl, hb⟩; have HB1 := asd hb; clear hb))
  go_ret2
  exact ⟨none, 0, rfl, Nat.le_refl _, Kd.C_nil _ _, HB1.out⟩
end Go.Proofs.Ytalimpniimgheaa.Fn
namespace Go.Proofs.Ytalimpniimgheaa.Fn
open Go.RowKit Go.Proofs.YtalimpniimgheaaW.PrintWords Go.Proofs.YtalimpniimgheaaW.PrintLast Go.Proofs.YtalimpniimgheaaW.PrintMore
set_option linter.unusedVariables false
set_option linter.unusedSimpArgs false
def GetAns (w w' : World) (e : Ending) (r : List S65 × Int) : Prop := ∃ A' c', e = .returned (.tuple #[.slice A' r.1.length c', .int .i64 r.2]) ∧ r.1.length ≤ c' ∧ Kd.C k65 w' A' r.1.length r.1 ∧ Below w.heap.size w w'
theorem loopG_stop {n : Nat} {s : GS} (h : s.odd = true ∨ s.er ≠ 0) : loopG n s = ([], s) := by
 cases n with
 | zero => rfl
 | succ n => show (if s.odd = true ∨ s.er ≠ 0 then _ else _) = _; rw [if_pos h]
theorem loopG_step {n : Nat} {s : GS} (h : s.odd = false) (h0 : s.er = 0) : loopG (n + 1) s = ((entG s).1 :: (loopG n (entG s).2).1, (loopG n (entG s).2).2) := by
 show (if s.odd = true ∨ s.er ≠ 0 then _ else _) = _
 rw [if_neg (by rw [h, h0]; simp)]
theorem entG_last (s : GS) : (entG s).2.last = (entG s).1.f0 := rfl
theorem entG_nn {s : GS} {n : Nat} (h : s.ok n) : 0 ≤ (entG s).1.f0 ∧ Bytes (entG s).2.bs ∧ (entG s).2.bs.length ≤ n := by
 have h1 := getS_bd 1 (by omega) (s.er, s.bs) h.1
 have hs1 : (s.get 1).2.ok n := ⟨h1.2.2.1, Nat.le_trans h1.2.2.2 h.2.1, h.2.2⟩
 have h2 := tickG_bd hs1 (s.get 1).1
 have h3 := numG_bd (s := bigG (tickG (s.get 1).2 (s.get 1).1).2 (tickG (s.get 1).2 (s.get 1).1).1) h2.2.2 ((s.get 1).1 / 16 % 2 == 0)
 have h4 := numG_bd h3.2.2 ((s.get 1).1 / 32 % 2 == 0)
 exact ⟨h2.1, h4.2.2.1, h4.2.2.2.1⟩
def Rest (n0 : Nat) (s0 : GS) (out : List S65) (k : Nat) (s : GS) : Prop := loopG n0 s0 = (out ++ (loopG k s).1, (loopG k s).2)
theorem Rest.step {n0 k : Nat} {s0 s : GS} {out : List S65} (h : Rest n0 s0 out (k + 1) s) (h1 : s.odd = false) (h2 : s.er = 0) : Rest n0 s0 (out ++ [(entG s).1]) k (entG s).2 := by
 unfold Rest at h ⊢
 rw [loopG_step h1 h2] at h
 rw [h, List.append_assoc]; rfl
theorem Rest.stop {n0 k : Nat} {s0 s : GS} {out : List S65} (h : Rest n0 s0 out k s) (h1 : k = 0 ∨ s.odd = true ∨ s.er ≠ 0) : loopG n0 s0 = (out, s) := by
 unfold Rest at h
 rcases h1 with rfl | h1
 ·rw [h]; simp [loopG]
 ·rw [h, loopG_stop h1]; simp
set_option maxHeartbeats 16000000 in
set_option maxRecDepth 100000 in
theorem pGet_calls (A0 : Option Addr) (c0 : Nat) (b : List Int) (w : World) (hr : Kd.C (Kd.int .u8) w A0 b.length b) (hc : b.length ≤ c0) (hb : Bytes b) (hl : b.length ≤ 100000) :
  Calls Try.prog 61 #[.slice A0 b.length c0] w fun e w' => GetAns w w' e (getP b) := by
 have hu := Try.underlying148
 have hu3 := Try.underlying183
 have RD := asd (cRead_calls w A0 c0 b hr hb (by omega))
 have HR := asd hr
 have HC := asd hc
 have HBY := asd hb
 have HL := asd hl
 have b99 : (b.length : Int) ≤ 100000 := by omega
 generalize hg4 : getS 4 (0, b) = r4
 obtain ⟨n, er, bs⟩ := r4
 have N4 : Aside0 (0 ≤ n ∧ n < 4294967296 ∧ Bytes bs ∧ bs.length ≤ b.length) := ⟨by
  have h := getS_bd 4 (by omega) (0, b) hb
  rw [hg4] at h
  have e : (256 : Int) ^ 4 = 4294967296 := by decide
  exact ⟨h.1, by rw [← e]; exact h.2.1, h.2.2⟩⟩
 have n0 := N4.out.1
 have n9 := N4.out.2.1
 have G4 := asd hg4
 clear hr hc hb hl hg4
 go_enter Try.func61, Try.ntmps61
 go_wp2_with fail
 refine RD.out.mono ?_
 rintro e w1 ⟨g, A1, c1, rfl, h1, hgl, had, hb1⟩
 have H2 : Aside0 (IsPR (w1.alloc (.cells #[.pointer (some ⟨g, 0, none⟩), .int .i64 0, .bool false] 148)) w1.heap.size g 0 0 false A1 c1 b) := ⟨⟨heap_alloc_new w1 _, h1.below (below_alloc (Below.refl _ _) _), by have := blk_lt h1.blk; omega, fun ad ha q => by have := (had ad ha).2; omega⟩⟩
 have HB2 := asd (below_step hb1 (below_alloc (Below.refl _ _) (.cells #[.pointer (some ⟨g, 0, none⟩), .int .i64 0, .bool false] 148)))
 have LT : Aside0 (g < w1.heap.size + 1 ∧ (w1.alloc (.cells #[.pointer (some ⟨g, 0, none⟩), .int .i64 0, .bool false] 148)).heap.size = w1.heap.size + 1 ∧ (∀ ad, A1 = some ad → ad.block < w1.heap.size + 1) ∧ w.heap.size ≤ g ∧ w.heap.size ≤ w1.heap.size) := ⟨⟨by have := blk_lt h1.blk; omega, alloc_size1 _ _, fun ad ha => by have := (had ad ha).2; omega, hgl, below_size hb1⟩⟩
 have hx0 := (blk_cell H2.out.blk 0).trans rfl
 clear h1 hgl had hb1 RD
 go_wp2_with fail
 generalize w1.alloc (.cells #[.pointer (some ⟨g, 0, none⟩), .int .i64 0, .bool false] 148) = w2 at H2 HB2 LT hx0 ⊢
 generalize w1.heap.size = gr at H2 LT ⊢
 have GC := cGet_calls w2 g 0 A1 c1 b 4 4 rfl (by omega) (by omega) H2.out.rd (by have := HL.out; omega)
 rw [G4.out] at GC
 refine GC.mono ?_
 rintro e w3 ⟨rfl, A3, c3, h3, hc3, ha3⟩
 have H3 := asd ((H2.out.get h3 hc3 ha3).setOdd (decide (65536 < n)))
 have hx2 := (blk_cell (H2.out.get h3 hc3 ha3).blk 2).trans rfl
 have hf2 := blk_frozen (H2.out.get h3 hc3 ha3).blk 2
 have HC3 := asd ((hc3.mono (fun k hk => (.inl hk : prS gr g k))).set_ (p := ⟨gr, 2, none⟩) (.inl (.inr rfl)) (.bool (decide (65536 < n))))
 have AD3 : Aside0 (∀ ad, A3 = some ad → ad.block < gr + 1) := ⟨fun ad q => by
  obtain ⟨ad0, q1, q2⟩ := ha3 ad q
  rw [q2]; exact LT.out.2.2.1 ad0 q1⟩
 have dge : decide (n > 65536) = decide (65536 < n) := rfl
 clear GC h3 hc3 ha3 hx0 H2
 go_wp2
 clear hx2 hf2
 have HB3 : Aside0 (Below w.heap.size w (w3.setCell ⟨gr, 2, none⟩ (.bool (decide (65536 < n))))) := ⟨((Chg.of_belowB HB2.out).then_ HC3.out (fun k hk => .inl (by have := LT.out; rcases hk with hk | hk <;> omega))).to_below (fun _ h => h) (Nat.le_refl _)⟩
 have SZ2 := asd HC3.out.size
 generalize w3.setCell ⟨gr, 2, none⟩ (.bool (decide (65536 < n))) = w4 at H3 HC3 HB3 SZ2 ⊢
 have S0 : Aside0 (Rest n.toNat ⟨er, bs, 0, decide (65536 < n)⟩ [] n.toNat ⟨er, bs, 0, decide (65536 < n)⟩) := ⟨by unfold Rest; simp⟩
 generalize hod : decide (65536 < n) = od at H3 HC3 HB3 S0 ⊢
 have OD0 := asd hod
 clear hod dge
 go_loopw [6, 7] (fun v6 v7 wr => ∃ (i : Nat) (out : List S65) (s : GS) (A : Option Addr) (c : Nat) (Ao : Option Addr) (co : Nat), v6 = .slice Ao out.length co ∧ v7 = .int .i64 i ∧ Aside0 ((i : Int) ≤ n ∧ out.length = i ∧ i ≤ 65536 ∧ (s.odd = true → i ≤ 65536) ∧ (s.odd = false → n ≤ 65536)) ∧ Aside0 (s.odd = false → 0 ≤ s.last ∧ s.last < 72057594037927936) ∧ Aside0 (IsPR wr gr g s.er s.last s.odd A c s.bs ∧ s.bs.length ≤ b.length ∧ ∀ ad, A = some ad → ad.block < gr + 1) ∧ Aside0 (Rest n.toNat ⟨er, bs, 0, od⟩ out (n.toNat - i) s) ∧ Aside0 (k65.R 65 wr w2.heap.size (fun _ => True) (.slice Ao out.length co) out) ∧ Aside0 (Below w.heap.size w wr) ∧ Aside0 (w2.heap.size ≤ wr.heap.size)) (fun _ v => fun _ => n.toNat - (intOf v).toNat)
 case atStart => exact ⟨0, [], ⟨er, bs, 0, od⟩, A3, c3, none, 0, rfl, rfl, ⟨by omega, rfl, by omega, fun _ => by omega, fun h => by have := OD0.out; rw [show od = false from h] at this; have := of_decide_eq_false this; omega⟩, ⟨fun _ => ⟨by simp, by simp⟩⟩, ⟨H3.out, N4.out.2.2.2, AD3.out⟩, S0, ⟨Kd.R_nil _ _ _ _ _⟩, HB3, SZ2⟩
 case round =>
  clear H3 HC3 HB3 S0 SZ2 AD3
  obtain ⟨i, out, s, A, c, Ao, co, rfl, rfl, HX, HLA, HS, RS, RO, HB, SZ⟩ := hrel
  obtain ⟨ser, sbs, slast, sodd⟩ := s
  have hp0 := (blk_cell HS.out.1.blk 0).trans rfl
  have hp2 := (blk_cell HS.out.1.blk 2).trans rfl
  have i99 : (i : Int) ≤ 65536 := by have := HX.out.2.2.1; omega
  by_cases hgo : (i : Int) < n ∧ sodd = false ∧ ser = 0
  ·obtain ⟨hin, rfl, rfl⟩ := hgo
   have q1 : decide ((i : Int) < n) = true := decide_eq_true hin
   have ST : Aside0 (Rest n.toNat ⟨er, bs, 0, od⟩ (out ++ [(entG ⟨0, sbs, slast, false⟩).1]) (n.toNat - (i + 1)) (entG ⟨0, sbs, slast, false⟩).2) := ⟨by
    have h := RS.out
    rw [show n.toNat - i = (n.toNat - (i + 1)) + 1 by omega] at h
    exact h.step rfl rfl⟩
   have LA := asd (HLA.out rfl)
   have PE := asd (pent_calls wr gr g 0 slast false A c sbs HS.out.1 (by have h1 : sbs.length ≤ b.length := HS.out.2.1; have := HL.out; omega) LA.out.1 LA.out.2 (fun ad q => by have h1 := HS.out.2.2 ad q; have h2 := SZ.out; have h3 := LT.out.2.1; omega))
   have EN := asd (entG_nn (s := ⟨0, sbs, slast, false⟩) (n := b.length) ⟨HS.out.1.rd.by_, HS.out.2.1, LA.out.1, LA.out.2⟩)
   have EO := asd (entG_odd ⟨0, sbs, slast, false⟩)
   have EL := asd (entG_last ⟨0, sbs, slast, false⟩)
   generalize entG ⟨0, sbs, slast, false⟩ = es at ST PE EN EO EL
   obtain ⟨x, s2⟩ := es
   have HN := asd (show (i : Int) < n ∧ n ≤ 65536 from ⟨hin, HX.out.2.2.2.2 rfl⟩)
   clear hin RS HLA
   go_wp2_with (first
    | (go_at_call 97; refine (cErr_calls _ g 0 A c sbs HS.out.1.rd).mono ?_; rintro e wx ⟨rfl, rfl⟩)
    | (go_at_call 98; refine PE.out.mono ?_; rintro e w5 ⟨rfl, A5, c5, h5, hc5, ha5⟩; have H5 := asd h5; have HC5 := asd hc5; have HA5 := asd ha5; have RO5 := asd (R_chgB RO.out hc5 (fun k hk => by have h1 := LT.out; rcases hk with hk | hk <;> omega)); have HB5 : Aside0 (Below w.heap.size w w5) := ⟨((Chg.of_belowB HB.out).then_ hc5 (fun k hk => .inl (by have := LT.out; rcases hk with hk | hk <;> omega))).to_below (fun _ h => h) (Nat.le_refl _)⟩; clear h5 hc5 ha5 PE hp0 hp2)
    | (at_builtin; refine Kd.R_append k65 (w0 := w5) w2.heap.size rfl (.tmp 44) (.tmp 47) 31 65 (.agg #[.int .i64 0, .int .i64 0, .int .i64 0, .int .i64 0]) 32 rfl Try.underlying31 info65 rfl (by decide) (by omega) (.slice Ao out.length co) out x [.int .i64 x.f0, .int .i64 x.f1, .int .i64 x.f2, .int .i64 x.f3] (fun _ => True) (fun _ => False) rfl rfl (k65_mkM _ _ _ _) (fun _ hk => hk.elim) (fun _ _ => trivial) RO5.out (Below.refl _ _) (by have := SZ.out; have := HC5.out.size; omega) (by have := HX.out; omega) ?_; intro v6 w6 ho hb hg hat; obtain ⟨A6, c6, rfl⟩ := Kd.R_slice ho; have RO6 := asd ho; have HB6 := asd hb; clear ho hb hg hat))
   have SZ6 : Aside0 (w2.heap.size ≤ w6.heap.size) := ⟨by have := HB6.out.size; have := HC5.out.size; have := SZ.out; omega⟩
   go_roundw
   case rel => exact ⟨i + 1, out ++ [x], s2, A5, c5, A6, c6, by simp, by go_num, ⟨by have := HN.out; omega, by rw [List.length_append, HX.out.2.1]; rfl, by have := HN.out; omega, fun _ => by have := HN.out; omega, fun _ => HN.out.2⟩, ⟨fun h => ⟨by rw [EL.out]; exact EN.out.1, by rw [EL.out]; exact EO.out h⟩⟩, ⟨H5.out.chg (Chg.of_belowB HB6.out) (by have := LT.out; omega) (by have := LT.out; omega) (fun ad q => by
     obtain ⟨ad0, q1, q2⟩ := HA5.out ad q
     have := HS.out.2.2 ad0 q1
     have := LT.out; omega), EN.out.2.2, fun ad q => by
     obtain ⟨ad0, q1, q2⟩ := HA5.out ad q
     rw [q2]; exact HS.out.2.2 ad0 q1⟩, ST, RO6, ⟨((Chg.of_belowB HB5.out).then_ (Chg.of_belowB HB6.out) (fun k hk => .inl (by have := LT.out; omega))).to_below (fun _ h => h) (Nat.le_refl _)⟩, SZ6⟩
   case measure => have := HN.out; simp [intOf]; omega
  ·have FIN : Aside0 (loopG n.toNat ⟨er, bs, 0, od⟩ = (out, ⟨ser, sbs, slast, sodd⟩)) := ⟨by
    refine RS.out.stop ?_
    by_cases q : (i : Int) < n
    ·right
     cases sodd with
     | true => exact .inl rfl
     | false => exact .inr (fun q2 => hgo ⟨q, rfl, q2⟩)
    ·left; omega⟩
   have GP : Aside0 (getP b = (if sodd = true then ([], 10) else if (getS 2 (ser, sbs)).2.1 ≠ 0 then ([], 11) else if (getS 2 (ser, sbs)).1 ≠ sumP (b.take (b.length - (if ser = 0 then sbs.length else 0))) ∨ 0 < (getS 2 (ser, sbs)).2.2.length then ([], 10) else (out, 0))) := ⟨by
    unfold getP
    simp only [G4.out]
    rw [show decide (65536 < n) = od from OD0.out, FIN.out]⟩
   by_cases hin : (i : Int) < n
   ·have q1 : decide ((i : Int) < n) = true := decide_eq_true hin
    cases sodd with
    | true =>
     clear hin
     have OT : Aside0 (getP b = ([], 10)) := ⟨by rw [GP.out, if_pos rfl]⟩
     clear hgo RS GP
     go_wp2
     go_ret2
     rw [OT.out]
     exact ⟨none, 0, rfl, Nat.le_refl _, Kd.C_nil _ _, HB.out⟩
    | false =>
     have he : ser ≠ 0 := fun q => hgo ⟨hin, rfl, q⟩
     have b0 : (ser == 0) = false := beq_eq_false_iff_ne.2 he
     clear hin he
     have GC := asd (cGet_calls wr g ser A c sbs 2 2 rfl (by omega) (by omega) HS.out.1.rd (by have h1 : sbs.length ≤ b.length := HS.out.2.1; have := HL.out; omega))
     have G2B := asd (getS_bd 2 (by omega) (ser, sbs) HS.out.1.rd.by_)
     have SE : Aside0 ((getS 2 (ser, sbs)).2.1 = 0 → ser = 0) := ⟨fun h => by
      by_cases q : ser = 0
      ·exact q
      ·rw [getS_err (show (ser, sbs).1 ≠ 0 from q)] at h; exact h⟩
     generalize getS 2 (ser, sbs) = r2 at GC GP SE G2B
     obtain ⟨m, er2, bs2⟩ := r2
     clear hgo RS
     go_wp2_with (first | (go_at_call 97; refine (cErr_calls _ g ser A c sbs HS.out.1.rd).mono ?_; rintro e wx ⟨rfl, rfl⟩) | (go_at_call 99; refine (cLeft_calls _ g ser A c sbs HS.out.1.rd).mono ?_; rintro e wx ⟨rfl, rfl⟩))
     refine GC.out.mono ?_
     rintro e w7 ⟨rfl, A7, c7, h7, hc7, ha7⟩
     have H7 := asd (HS.out.1.get h7 hc7 ha7)
     have RO7 := asd (R_chgB RO.out hc7 (fun k hk => by have h1 := LT.out; omega))
     have HB7 : Aside0 (Below w.heap.size w w7) := ⟨((Chg.of_belowB HB.out).then_ hc7 (fun k hk => .inl (by have := LT.out; omega))).to_below (fun _ h => h) (Nat.le_refl _)⟩
     clear h7 hc7 ha7 GC hp0 hp2
     have hp0 := (blk_cell H7.out.blk 0).trans rfl
     by_cases he2 : er2 = 0
     ·obtain rfl := he2
      have hs0 := SE.out rfl
      have HK : Aside0 (leftV ser sbs.length = (sbs.length : Int) ∧ sbs.length ≤ b.length) := ⟨if_pos hs0, HS.out.2.1⟩
      have e76 : (b.length : Int) - leftV ser sbs.length = ((b.length - sbs.length : Nat) : Int) := by rw [HK.out.1]; have := HK.out.2; omega
      have GP2 : Aside0 (getP b = if m ≠ sumP (b.take (b.length - sbs.length)) ∨ 0 < bs2.length then ([], 10) else (out, 0)) := ⟨by
       have h := GP.out
       simp only [hs0, if_true, if_false, ne_eq, not_true_eq_false, Bool.false_eq_true] at h
       exact h⟩
      have hkl : (b.take (b.length - sbs.length)).length = b.length - sbs.length := by rw [List.length_take]; omega
      have SUM := asd (psum_calls A0 c0 (b.take (b.length - sbs.length)) w7 (Kd.C_take (Kd.C_below HR.out HB7.out) (by omega)) (by rw [hkl]; have := HC.out; omega) (HBY.out.take _) (by rw [hkl]; have := HL.out; omega))
      rw [hkl] at SUM
      have SBD := asd (sumP_bd (b.take (b.length - sbs.length)))
      generalize sumP (b.take (b.length - sbs.length)) = sm at SUM GP2 SBD
      generalize leftV ser sbs.length = lf at e76 ⊢
      generalize b.length - sbs.length = kk at SUM e76 hkl
      have kk9 : kk ≤ b.length := by rw [← hkl, List.length_take]; omega
      have p0 : (0 ≤ (kk : Int)) = True := eq_true (by omega)
      have p1 : ((kk : Int) ≤ (c0 : Int)) = True := eq_true (by have := HC.out; omega)
      have p2 : ((kk : Int) ≤ (b.length : Int)) = True := eq_true (by omega)
      have p3 : (kk ≤ c0) = True := eq_true (by have := HC.out; omega)
      have w76 : wrap64 ((b.length : Int) - lf) = (kk : Int) := by rw [e76]; unfold wrap64; omega
      have w76b : IntKind.i64.wrap ((b.length : Int) - lf) = (kk : Int) := by rw [i64_w]; exact w76
      clear hkl GP SE hs0 kk9 e76
      by_cases hm : m = sm
      ·obtain rfl := hm
       have bn : (m != m) = false := by simp
       by_cases hz : 0 < bs2.length
       ·have OT : Aside0 (getP b = ([], 10)) := ⟨by rw [GP2.out, if_pos (.inr hz)]⟩
        have dz : decide ((bs2.length : Int) > 0) = true := decide_eq_true (by omega)
        have dz2 : decide (0 < (bs2.length : Int)) = true := dz
        have dz3 : decide (0 < bs2.length) = true := decide_eq_true hz
        have LF := asd (fun wz (h : IsRd wz g 0 A7 c7 bs2) => cLeft_calls wz g 0 A7 c7 bs2 h)
        rw [show leftV 0 bs2.length = (bs2.length : Int) from if_pos rfl] at LF
        clear GP2 hz
        go_wp2_with (first | (go_at_call 97; refine (cErr_calls _ g 0 A7 c7 bs2 H7.out.rd).mono ?_; rintro e wx ⟨rfl, rfl⟩) | (go_at_call 59; refine SUM.out.mono ?_; rintro e w8 ⟨rfl, hb⟩; have H8 := asd (H7.out.below hb); have HB8 := asd (below_step HB7.out hb); clear hb hp0; have hp0 := (blk_cell H8.out.blk 0).trans rfl) | (go_at_call 99; refine (LF.out _ H8.out.rd).mono ?_; rintro e wx ⟨rfl, rfl⟩))
        go_ret2
        rw [OT.out]
        exact ⟨none, 0, rfl, Nat.le_refl _, Kd.C_nil _ _, HB8.out⟩
       ·have OT : Aside0 (getP b = (out, 0)) := ⟨by rw [GP2.out, if_neg (fun q => q.elim (fun q => q rfl) hz)]⟩
        have dz : decide ((bs2.length : Int) > 0) = false := decide_eq_false (by omega)
        have dz2 : decide (0 < (bs2.length : Int)) = false := dz
        have dz3 : decide (0 < bs2.length) = false := decide_eq_false hz
        have LF := asd (fun wz (h : IsRd wz g 0 A7 c7 bs2) => cLeft_calls wz g 0 A7 c7 bs2 h)
        rw [show leftV 0 bs2.length = (bs2.length : Int) from if_pos rfl] at LF
        clear GP2 hz
        go_wp2_with (first | (go_at_call 97; refine (cErr_calls _ g 0 A7 c7 bs2 H7.out.rd).mono ?_; rintro e wx ⟨rfl, rfl⟩) | (go_at_call 59; refine SUM.out.mono ?_; rintro e w8 ⟨rfl, hb⟩; have H8 := asd (H7.out.below hb); have HB8 := asd (below_step HB7.out hb); have RO8 := asd (Kd.R_below RO7.out hb); clear hb hp0; have hp0 := (blk_cell H8.out.blk 0).trans rfl) | (go_at_call 99; refine (LF.out _ H8.out.rd).mono ?_; rintro e wx ⟨rfl, rfl⟩))
        go_ret2
        rw [OT.out]
        exact ⟨Ao, co, rfl, (Kd.R_reads' RO8.out).2.1, C_ofR RO8.out, HB8.out⟩
      ·have OT : Aside0 (getP b = ([], 10)) := ⟨by rw [GP2.out, if_pos (.inl hm)]⟩
       have bn : (m != sm) = true := by simpa using hm
       clear GP2 hm
       go_wp2_with (first | (go_at_call 97; refine (cErr_calls _ g 0 A7 c7 bs2 H7.out.rd).mono ?_; rintro e wx ⟨rfl, rfl⟩) | (go_at_call 59; refine SUM.out.mono ?_; rintro e w8 ⟨rfl, hb⟩; have HB8 := asd (below_step HB7.out hb); clear hb))
       go_ret2
       rw [OT.out]
       exact ⟨none, 0, rfl, Nat.le_refl _, Kd.C_nil _ _, HB8.out⟩
     ·have OT : Aside0 (getP b = ([], 11)) := ⟨by rw [GP.out, if_neg (by simp), if_pos he2]⟩
      have bn : (er2 != 0) = true := by simpa using he2
      clear GP he2 SE
      go_wp2_with (first | (go_at_call 97; refine (cErr_calls _ g er2 A7 c7 bs2 H7.out.rd).mono ?_; rintro e wx ⟨rfl, rfl⟩))
      go_ret2
      rw [OT.out]
      exact ⟨none, 0, rfl, Nat.le_refl _, Kd.C_nil _ _, HB7.out⟩
   ·have q1 : decide ((i : Int) < n) = false := decide_eq_false hin
    clear hin
    cases sodd with
    | true =>
     have OT : Aside0 (getP b = ([], 10)) := ⟨by rw [GP.out, if_pos rfl]⟩
     clear hgo RS GP
     go_wp2
     go_ret2
     rw [OT.out]
     exact ⟨none, 0, rfl, Nat.le_refl _, Kd.C_nil _ _, HB.out⟩
    | false =>
     have GC := asd (cGet_calls wr g ser A c sbs 2 2 rfl (by omega) (by omega) HS.out.1.rd (by have h1 : sbs.length ≤ b.length := HS.out.2.1; have := HL.out; omega))
     have G2B := asd (getS_bd 2 (by omega) (ser, sbs) HS.out.1.rd.by_)
     have SE : Aside0 ((getS 2 (ser, sbs)).2.1 = 0 → ser = 0) := ⟨fun h => by
      by_cases q : ser = 0
      ·exact q
      ·rw [getS_err (show (ser, sbs).1 ≠ 0 from q)] at h; exact h⟩
     generalize getS 2 (ser, sbs) = r2 at GC GP SE G2B
     obtain ⟨m, er2, bs2⟩ := r2
     clear hgo RS
     go_wp2_with (first | (go_at_call 99; refine (cLeft_calls _ g ser A c sbs HS.out.1.rd).mono ?_; rintro e wx ⟨rfl, rfl⟩))
     refine GC.out.mono ?_
     rintro e w7 ⟨rfl, A7, c7, h7, hc7, ha7⟩
     have H7 := asd (HS.out.1.get h7 hc7 ha7)
     have RO7 := asd (R_chgB RO.out hc7 (fun k hk => by have h1 := LT.out; omega))
     have HB7 : Aside0 (Below w.heap.size w w7) := ⟨((Chg.of_belowB HB.out).then_ hc7 (fun k hk => .inl (by have := LT.out; omega))).to_below (fun _ h => h) (Nat.le_refl _)⟩
     clear h7 hc7 ha7 GC hp0 hp2
     have hp0 := (blk_cell H7.out.blk 0).trans rfl
     by_cases he2 : er2 = 0
     ·obtain rfl := he2
      have hs0 := SE.out rfl
      have HK : Aside0 (leftV ser sbs.length = (sbs.length : Int) ∧ sbs.length ≤ b.length) := ⟨if_pos hs0, HS.out.2.1⟩
      have e76 : (b.length : Int) - leftV ser sbs.length = ((b.length - sbs.length : Nat) : Int) := by rw [HK.out.1]; have := HK.out.2; omega
      have GP2 : Aside0 (getP b = if m ≠ sumP (b.take (b.length - sbs.length)) ∨ 0 < bs2.length then ([], 10) else (out, 0)) := ⟨by
       have h := GP.out
       simp only [hs0, if_true, if_false, ne_eq, not_true_eq_false, Bool.false_eq_true] at h
       exact h⟩
      have hkl : (b.take (b.length - sbs.length)).length = b.length - sbs.length := by rw [List.length_take]; omega
      have SUM := asd (psum_calls A0 c0 (b.take (b.length - sbs.length)) w7 (Kd.C_take (Kd.C_below HR.out HB7.out) (by omega)) (by rw [hkl]; have := HC.out; omega) (HBY.out.take _) (by rw [hkl]; have := HL.out; omega))
      rw [hkl] at SUM
      have SBD := asd (sumP_bd (b.take (b.length - sbs.length)))
      generalize sumP (b.take (b.length - sbs.length)) = sm at SUM GP2 SBD
      generalize leftV ser sbs.length = lf at e76 ⊢
      generalize b.length - sbs.length = kk at SUM e76 hkl
      have kk9 : kk ≤ b.length := by rw [← hkl, List.length_take]; omega
      have p0 : (0 ≤ (kk : Int)) = True := eq_true (by omega)
      have p1 : ((kk : Int) ≤ (c0 : Int)) = True := eq_true (by have := HC.out; omega)
      have p2 : ((kk : Int) ≤ (b.length : Int)) = True := eq_true (by omega)
      have p3 : (kk ≤ c0) = True := eq_true (by have := HC.out; omega)
      have w76 : wrap64 ((b.length : Int) - lf) = (kk : Int) := by rw [e76]; unfold wrap64; omega
      have w76b : IntKind.i64.wrap ((b.length : Int) - lf) = (kk : Int) := by rw [i64_w]; exact w76
      clear hkl GP SE hs0 kk9 e76
      by_cases hm : m = sm
      ·obtain rfl := hm
       have bn : (m != m) = false := by simp
       by_cases hz : 0 < bs2.length
       ·have OT : Aside0 (getP b = ([], 10)) := ⟨by rw [GP2.out, if_pos (.inr hz)]⟩
        have dz : decide ((bs2.length : Int) > 0) = true := decide_eq_true (by omega)
        have dz2 : decide (0 < (bs2.length : Int)) = true := dz
        have dz3 : decide (0 < bs2.length) = true := decide_eq_true hz
        have LF := asd (fun wz (h : IsRd wz g 0 A7 c7 bs2) => cLeft_calls wz g 0 A7 c7 bs2 h)
        rw [show leftV 0 bs2.length = (bs2.length : Int) from if_pos rfl] at LF
        clear GP2 hz
        go_wp2_with (first | (go_at_call 97; refine (cErr_calls _ g 0 A7 c7 bs2 H7.out.rd).mono ?_; rintro e wx ⟨rfl, rfl⟩) | (go_at_call 59; refine SUM.out.mono ?_; rintro e w8 ⟨rfl, hb⟩; have H8 := asd (H7.out.below hb); have HB8 := asd (below_step HB7.out hb); clear hb hp0; have hp0 := (blk_cell H8.out.blk 0).trans rfl) | (go_at_call 99; refine (LF.out _ H8.out.rd).mono ?_; rintro e wx ⟨rfl, rfl⟩))
        go_ret2
        rw [OT.out]
        exact ⟨none, 0, rfl, Nat.le_refl _, Kd.C_nil _ _, HB8.out⟩
       ·have OT : Aside0 (getP b = (out, 0)) := ⟨by rw [GP2.out, if_neg (fun q => q.elim (fun q => q rfl) hz)]⟩
        have dz : decide ((bs2.length : Int) > 0) = false := decide_eq_false (by omega)
        have dz2 : decide (0 < (bs2.length : Int)) = false := dz
        have dz3 : decide (0 < bs2.length) = false := decide_eq_false hz
        have LF := asd (fun wz (h : IsRd wz g 0 A7 c7 bs2) => cLeft_calls wz g 0 A7 c7 bs2 h)
        rw [show leftV 0 bs2.length = (bs2.length : Int) from if_pos rfl] at LF
        clear GP2 hz
        go_wp2_with (first | (go_at_call 97; refine (cErr_calls _ g 0 A7 c7 bs2 H7.out.rd).mono ?_; rintro e wx ⟨rfl, rfl⟩) | (go_at_call 59; refine SUM.out.mono ?_; rintro e w8 ⟨rfl, hb⟩; have H8 := asd (H7.out.below hb); have HB8 := asd (below_step HB7.out hb); have RO8 := asd (Kd.R_below RO7.out hb); clear hb hp0; have hp0 := (blk_cell H8.out.blk 0).trans rfl) | (go_at_call 99; refine (LF.out _ H8.out.rd).mono ?_; rintro e wx ⟨rfl, rfl⟩))
        go_ret2
        rw [OT.out]
        exact ⟨Ao, co, rfl, (Kd.R_reads' RO8.out).2.1, C_ofR RO8.out, HB8.out⟩
      ·have OT : Aside0 (getP b = ([], 10)) := ⟨by rw [GP2.out, if_pos (.inl hm)]⟩
       have bn : (m != sm) = true := by simpa using hm
       clear GP2 hm
       go_wp2_with (first | (go_at_call 97; refine (cErr_calls _ g 0 A7 c7 bs2 H7.out.rd).mono ?_; rintro e wx ⟨rfl, rfl⟩) | (go_at_call 59; refine SUM.out.mono ?_; rintro e w8 ⟨rfl, hb⟩; have HB8 := asd (below_step HB7.out hb); clear hb))
       go_ret2
       rw [OT.out]
       exact ⟨none, 0, rfl, Nat.le_refl _, Kd.C_nil _ _, HB8.out⟩
     ·have OT : Aside0 (getP b = ([], 11)) := ⟨by rw [GP.out, if_neg (by simp), if_pos he2]⟩
      have bn : (er2 != 0) = true := by simpa using he2
      clear GP he2 SE
      go_wp2_with (first | (go_at_call 97; refine (cErr_calls _ g er2 A7 c7 bs2 H7.out.rd).mono ?_; rintro e wx ⟨rfl, rfl⟩))
      go_ret2
      rw [OT.out]
      exact ⟨none, 0, rfl, Nat.le_refl _, Kd.C_nil _ _, HB7.out⟩
end Go.Proofs.Ytalimpniimgheaa.Fn
