/- Part of the proof of JournalPlays: see the last text. (Words laid by the print, as far as they are named here; walks written by a program of this project; plain laws.) -/
import Derived.Test.YtalimpniimgheaaJournalPlaysZ0
namespace Go.Proofs.Ytalimpniimgheaa.Fn
open Go.RowKit Go.Proofs.YtalimpniimgheaaW.PrintWords Go.Proofs.YtalimpniimgheaaW.PrintLast Go.Proofs.YtalimpniimgheaaW.PrintMore
abbrev bn := @blk_drewN
abbrev bd := @blk_drew
abbrev ba := @blk_alloc
abbrev asd := @Aside0.mk
abbrev wa := @below_alloc
abbrev wn := @pw_below_drewN
abbrev wd := @below_drew1
theorem sB : (∀ (l : List Value) (i : Nat) (a : Value), l.toArray.setIfInBounds i a = (l.set i a).toArray) ∧ (∀ (a b : Value) (l : List Value), (a :: l).set 0 b = b :: l) ∧ (∀ (a b : Value) (l : List Value) (n : Nat), (a :: l).set (n + 1) b = a :: l.set n b) := ⟨fun _ _ _ => List.setIfInBounds_toArray .., fun _ _ _ => rfl, fun _ _ _ _ => rfl⟩
end Go.Proofs.Ytalimpniimgheaa.Fn

namespace Go.Proofs.Ytalimpniimgheaa.Fn
open Go.RowKit Go.Proofs.YtalimpniimgheaaW.PrintWords Go.Proofs.YtalimpniimgheaaW.PrintLast Go.Proofs.YtalimpniimgheaaW.PrintMore
attribute [local go_sem] max2_int min2_int max_two min_two max_three min_three max_four min_four
set_option linter.unusedVariables false
set_option linter.unusedSimpArgs false
def errW : Option Int → Value
 | none => .nilIface
 | some c => .iface 0 (.int .i64 c)
theorem errW_none : errW none = .nilIface := rfl
theorem errW_some (c : Int) : errW (some c) = .iface 0 (.int .i64 c) := rfl
theorem info64 : (Try.prog.info? 64).map (fun i => (i.zero, i.size, i.bytes)) = some (some (.agg #[(.int .i64 0), (.int .i64 0), (.int .i64 0), (.int .i64 0)]), 4, 32) := by kernel_rfl
theorem info65 : (Try.prog.info? 65).map (fun i => (i.zero, i.size, i.bytes)) = some (some (.agg #[(.int .i64 0), (.int .i64 0), (.int .i64 0), (.int .i64 0)]), 4, 32) := by kernel_rfl
structure S65 where
 f0 : Int
 f1 : Int
 f2 : Int
 f3 : Int
def z65 : S65 := ⟨(0 : Int), (0 : Int), (0 : Int), (0 : Int)⟩
def k65 : Kd S65 := Kd.iso (Kd.pair (Kd.int .i64) (Kd.pair (Kd.int .i64) (Kd.pair (Kd.int .i64) (Kd.int .i64)))) (fun x : S65 => (x.f0, x.f1, x.f2, x.f3))
theorem k65_open {w : World} {x : S65} {cs : List Value} (h : k65.K w x cs) : cs = [.int .i64 x.f0, .int .i64 x.f1, .int .i64 x.f2, .int .i64 x.f3] := by
 obtain ⟨_, _, rfl, rfl, ⟨_, _, rfl, rfl, ⟨_, _, rfl, rfl, rfl⟩⟩⟩ := h
 exact rfl
theorem k65_mk (w : World) (x : S65)  : k65.K w x [.int .i64 x.f0, .int .i64 x.f1, .int .i64 x.f2, .int .i64 x.f3] := ⟨[.int .i64 x.f0], [.int .i64 x.f1, .int .i64 x.f2, .int .i64 x.f3], rfl, rfl, ⟨[.int .i64 x.f1], [.int .i64 x.f2, .int .i64 x.f3], rfl, rfl, ⟨[.int .i64 x.f2], [.int .i64 x.f3], rfl, rfl, rfl⟩⟩⟩
theorem k65_mkM (w : World) (base : Nat) (ok : Nat → Prop) (x : S65)  : k65.M w base ok x [.int .i64 x.f0, .int .i64 x.f1, .int .i64 x.f2, .int .i64 x.f3] := ⟨[.int .i64 x.f0], [.int .i64 x.f1, .int .i64 x.f2, .int .i64 x.f3], rfl, rfl, ⟨[.int .i64 x.f1], [.int .i64 x.f2, .int .i64 x.f3], rfl, rfl, ⟨[.int .i64 x.f2], [.int .i64 x.f3], rfl, rfl, rfl⟩⟩⟩
def rd_T65 (xs : List S65) (i : Int) : S65 := xs.getD i.toNat z65
theorem at_T65 {w : World} {A : Option Addr} {n : Nat} {xs : List S65} (h : Kd.C k65 w A n xs) (i : Int) (h0 : 0 ≤ i) (h1 : i < n) : ∃ ad , A = some ad ∧ w.cell? (ad.add (i.toNat * 4)) = some (.int .i64 (rd_T65 xs i).f0) ∧ w.cell? ⟨(ad.add (i.toNat * 4)).block, (ad.add (i.toNat * 4)).off + 1, none⟩ = some (.int .i64 (rd_T65 xs i).f1) ∧ w.cell? ⟨(ad.add (i.toNat * 4)).block, (ad.add (i.toNat * 4)).off + 2, none⟩ = some (.int .i64 (rd_T65 xs i).f2) ∧ w.cell? ⟨(ad.add (i.toNat * 4)).block, (ad.add (i.toNat * 4)).off + 3, none⟩ = some (.int .i64 (rd_T65 xs i).f3) := by
 obtain ⟨ad, c, e, _, hK, hc0⟩ := Kd.C_get h z65 i h0 h1
 have hc : ∀ j u, c[j]? = some u → w.cell? (ad.add (i.toNat * 4 + j)) = some u := hc0
 obtain rfl := k65_open hK
 exact ⟨ad, e, hc 0 _ rfl, by rw [← add_field _ _ 1 (by omega)]; exact hc 1 _ rfl, by rw [← add_field _ _ 2 (by omega)]; exact hc 2 _ rfl, by rw [← add_field _ _ 3 (by omega)]; exact hc 3 _ rfl⟩
structure S64 where
 f0 : Int
 f1 : Int
 f2 : Int
 f3 : Int
def z64 : S64 := ⟨(0 : Int), (0 : Int), (0 : Int), (0 : Int)⟩
def k64 : Kd S64 := Kd.iso (Kd.pair (Kd.int .i64) (Kd.pair (Kd.int .i64) (Kd.pair (Kd.int .i64) (Kd.int .i64)))) (fun x : S64 => (x.f0, x.f1, x.f2, x.f3))
theorem k64_open {w : World} {x : S64} {cs : List Value} (h : k64.K w x cs) : cs = [.int .i64 x.f0, .int .i64 x.f1, .int .i64 x.f2, .int .i64 x.f3] := by
 obtain ⟨_, _, rfl, rfl, ⟨_, _, rfl, rfl, ⟨_, _, rfl, rfl, rfl⟩⟩⟩ := h
 exact rfl
theorem k64_mkM (w : World) (base : Nat) (ok : Nat → Prop) (x : S64)  : k64.M w base ok x [.int .i64 x.f0, .int .i64 x.f1, .int .i64 x.f2, .int .i64 x.f3] := ⟨[.int .i64 x.f0], [.int .i64 x.f1, .int .i64 x.f2, .int .i64 x.f3], rfl, rfl, ⟨[.int .i64 x.f1], [.int .i64 x.f2, .int .i64 x.f3], rfl, rfl, ⟨[.int .i64 x.f2], [.int .i64 x.f3], rfl, rfl, rfl⟩⟩⟩
def rd_T64 (xs : List S64) (i : Int) : S64 := xs.getD i.toNat z64
theorem at_T64 {w : World} {A : Option Addr} {n : Nat} {xs : List S64} (h : Kd.C k64 w A n xs) (i : Int) (h0 : 0 ≤ i) (h1 : i < n) : ∃ ad , A = some ad ∧ w.cell? (ad.add (i.toNat * 4)) = some (.int .i64 (rd_T64 xs i).f0) ∧ w.cell? ⟨(ad.add (i.toNat * 4)).block, (ad.add (i.toNat * 4)).off + 1, none⟩ = some (.int .i64 (rd_T64 xs i).f1) ∧ w.cell? ⟨(ad.add (i.toNat * 4)).block, (ad.add (i.toNat * 4)).off + 2, none⟩ = some (.int .i64 (rd_T64 xs i).f2) ∧ w.cell? ⟨(ad.add (i.toNat * 4)).block, (ad.add (i.toNat * 4)).off + 3, none⟩ = some (.int .i64 (rd_T64 xs i).f3) := by
 obtain ⟨ad, c, e, _, hK, hc0⟩ := Kd.C_get h z64 i h0 h1
 have hc : ∀ j u, c[j]? = some u → w.cell? (ad.add (i.toNat * 4 + j)) = some u := hc0
 obtain rfl := k64_open hK
 exact ⟨ad, e, hc 0 _ rfl, by rw [← add_field _ _ 1 (by omega)]; exact hc 1 _ rfl, by rw [← add_field _ _ 2 (by omega)]; exact hc 2 _ rfl, by rw [← add_field _ _ 3 (by omega)]; exact hc 3 _ rfl⟩
structure S97 where
 f0 : Int
 f1 : Int
 f2 : Int
 f3 : Int
def z97 : S97 := ⟨(0 : Int), (0 : Int), (0 : Int), (0 : Int)⟩
def k97 : Kd S97 := Kd.iso (Kd.pair (Kd.int .i64) (Kd.pair (Kd.int .i64) (Kd.pair (Kd.int .i64) (Kd.int .i64)))) (fun x : S97 => (x.f0, x.f1, x.f2, x.f3))
def rd_T97 (xs : List S97) (i : Int) : S97 := xs.getD i.toNat z97
structure S110 where
 f0 : Int
 f1 : Int
 f2 : Int
 f3 : Int
def z110 : S110 := ⟨(0 : Int), (0 : Int), (0 : Int), (0 : Int)⟩
def k110 : Kd S110 := Kd.iso (Kd.pair (Kd.int .i64) (Kd.pair (Kd.int .i64) (Kd.pair (Kd.int .i64) (Kd.int .i64)))) (fun x : S110 => (x.f0, x.f1, x.f2, x.f3))
def rd_T110 (xs : List S110) (i : Int) : S110 := xs.getD i.toNat z110
def rd_L7 (xs : List (List S64)) (i : Int) : (List S64) := xs.getD i.toNat ([] : List S64)
theorem at_L7 {w : World} {A : Option Addr} {n : Nat} {xs : List (List S64)} (h : Kd.C (Kd.slice 64 k64) w A n xs) (i : Int) (h0 : 0 ≤ i) (h1 : i < n) : ∃ ad A0 c0, A = some ad ∧ w.cell? (ad.add i.toNat) = some (.slice A0 (rd_L7 xs i).length c0) ∧ (rd_L7 xs i).length ≤ c0 ∧ k64.C w A0 (rd_L7 xs i).length (rd_L7 xs i) := by
 obtain ⟨ad, c, e, _, hK, hc0⟩ := Kd.C_get h ([] : List S64) i h0 h1
 have hc : ∀ j u, c[j]? = some u → w.cell? (ad.add (i.toNat * 1 + j)) = some u := hc0
 obtain ⟨A0, c0, rfl, l0, g0⟩ := hK
 exact ⟨ad, A0, c0, e, by have hq := hc 0 _ rfl; rwa [Nat.mul_one, Nat.add_zero] at hq, l0, g0⟩
structure S67 where
 f0 : Int
 f1 : S65
def z67 : S67 := ⟨(0 : Int), z65⟩
def k67 : Kd S67 := Kd.iso (Kd.pair (Kd.int .i64) k65) (fun x : S67 => (x.f0, x.f1))
def rd_T67 (xs : List S67) (i : Int) : S67 := xs.getD i.toNat z67
structure S117 where
 f0 : Int
 f1 : S64
def z117 : S117 := ⟨(0 : Int), z64⟩
def k117 : Kd S117 := Kd.iso (Kd.pair (Kd.int .i64) k64) (fun x : S117 => (x.f0, x.f1))
def rd_T117 (xs : List S117) (i : Int) : S117 := xs.getD i.toNat z117
def rd_L10 (xs : List (List S65)) (i : Int) : (List S65) := xs.getD i.toNat ([] : List S65)
def rd_L11 (xs : List (List S97)) (i : Int) : (List S97) := xs.getD i.toNat ([] : List S97)
end Go.Proofs.Ytalimpniimgheaa.Fn
namespace Go.Proofs.Ytalimpniimgheaa.Fn
open Go.RowKit Go.Proofs.YtalimpniimgheaaW.PrintWords Go.Proofs.YtalimpniimgheaaW.PrintLast Go.Proofs.YtalimpniimgheaaW.PrintMore
set_option linter.unusedVariables false
set_option linter.unusedSimpArgs false
def Opens (P : Program) (t : TypeId) {α : Type} (d : Kd α) (Q : α → Prop) : Prop :=
 ∀ (H : Type) (enc : TypeId × Value → H) (w : World) (base : Nat) (spare : Nat → Bool) (held : Bool) (fuel : Nat) (cs : List Value) (x : DataW H × List MemPlace),
  DataW.trod enc P w base spare held fuel t cs = some x → ∃ a : α, d.K w a cs ∧ Q a
def qInt (k : IntKind) (n : Int) : Prop := (Lit.int k n).wf = true
def qAny {α : Type} (_ : α) : Prop := True
def qStr (s : ByteArray) : Prop := s.size ≤ maxLen
def qList {α : Type} (Q : α → Prop) (xs : List α) : Prop := xs.length ≤ maxLen ∧ ∀ x ∈ xs, Q x
theorem opens_int {P : Program} {t : TypeId} {k : IntKind} (ht : P.underlying t = some (.int k)) : Opens P t (Kd.int k) (qInt k) := by
 intro H enc w base spare held fuel cs x h
 obtain ⟨n, e, _, hw⟩ := DataW.trod_int ht h
 exact ⟨n, e, hw⟩
theorem list_of {α : Type} {p : Nat → α → Prop} : ∀ n, (∀ i, i < n → ∃ a, p i a) → ∃ xs : List α, xs.length = n ∧ ∀ i a, xs[i]? = some a → p i a
 | 0, _ => ⟨[], rfl, fun i a h => by simp at h⟩
 | n + 1, h => by
  obtain ⟨xs, hl, hx⟩ := list_of n (fun i hi => h i (by omega))
  obtain ⟨a, ha⟩ := h n (by omega)
  refine ⟨xs ++ [a], by simp [hl], fun i b hb => ?_⟩
  rcases Nat.lt_trichotomy i n with hi | hi | hi
  ·rw [List.getElem?_append_left (by omega)] at hb
   exact hx i b hb
  ·subst hi
   rw [← hl] at hb
   simp at hb
   subst hb
   rw [hl] at *
   exact ha
  ·rw [List.getElem?_eq_none (by simp [hl]; omega)] at hb
   cases hb
theorem opens_slice {P : Program} {t e : TypeId} {α : Type} {d : Kd α} {Q : α → Prop} (ht : P.underlying t = some (.slice e)) (hc : P.cellsOf e = d.sz) (ho : Opens P e d Q) : Opens P t (Kd.slice e d) (qList Q) := by
 intro H enc w base spare held fuel cs x h
 rcases Go.Deep.open_slice ht h with ⟨rfl, _⟩ | ⟨a, len, cap, m, n, D, Pl, rfl, _, hl, hm, hmm, _, hx⟩
 ·exact ⟨[], ⟨none, 0, rfl, Nat.le_refl _, Kd.C_nil _ _⟩, by simp, fun x hx => by cases hx⟩
 ·have hlm : len ≤ m := by rw [hmm]; split <;> omega
  obtain ⟨xs, hxl, hxs⟩ := list_of (p := fun i a' => ∃ cs', w.cells? base (a.add (i * P.cellsOf e)) (P.cellsOf e) = some cs' ∧ d.K w a' cs' ∧ Q a') len (fun i hi => by
   obtain ⟨cs', h1, h2⟩ := hx i (by omega)
   obtain ⟨a', h3, h4⟩ := ho H enc w base spare held n cs' _ h2
   exact ⟨a', cs', h1, h3, h4⟩)
  refine ⟨xs, ⟨some a, cap, by rw [hxl], by omega, ?_⟩, by omega, fun x hx => ?_⟩
  ·refine ⟨rfl, by rw [hxl]; unfold maxLen at hm; omega, fun _ => ⟨a, rfl, ?_⟩⟩
   intro j p hp
   obtain ⟨cs', h1, h2, _⟩ := hxs j p hp
   obtain ⟨_, hcl, hci⟩ := World.cells?_some h1
   refine ⟨cs', by rw [hcl, hc], h2, fun i u hu => ?_⟩
   have hi : i < cs'.length := (List.getElem?_eq_some_iff.1 hu).1
   have h4 := hci i (by omega)
   rw [hu, Go.Deep.add_add, hc] at h4
   exact h4
  ·obtain ⟨i, hi, rfl⟩ := List.mem_iff_getElem.1 hx
   obtain ⟨_, _, _, hq⟩ := hxs i _ (List.getElem?_eq_getElem hi)
   exact hq
end Go.Proofs.Ytalimpniimgheaa.Fn
namespace Go.Proofs.Ytalimpniimgheaa.Fn
open Go.RowKit Go.Proofs.YtalimpniimgheaaW.PrintWords Go.Proofs.YtalimpniimgheaaW.PrintLast Go.Proofs.YtalimpniimgheaaW.PrintMore
set_option linter.unusedVariables false
set_option linter.unusedSimpArgs false
structure Chg (S : Nat → Prop) (w w' : World) : Prop where
 os : w'.os = w.os
 tape : w'.tape = w.tape
 output : w'.output = w.output
 size : w.heap.size ≤ w'.heap.size
 block : ∀ k, k < w.heap.size → ¬ S k → w'.heap[k]? = w.heap[k]?
section
variable {S S2 : Nat → Prop} {w w1 w2 : World} {B : Nat}
theorem Chg.refl (S : Nat → Prop) (w : World) : Chg S w w := ⟨rfl, rfl, rfl, Nat.le_refl _, fun _ _ _ => rfl⟩
theorem Chg.then_ (h : Chg S w w1) (k : Chg S2 w1 w2) (hs : ∀ k, S2 k → S k ∨ w.heap.size ≤ k) : Chg S w w2 :=
 ⟨k.os.trans h.os, k.tape.trans h.tape, k.output.trans h.output, Nat.le_trans h.size k.size, fun i hi hn => (k.block i (Nat.lt_of_lt_of_le hi h.size) (fun h2 => (hs i h2).elim hn (fun h3 => by omega))).trans (h.block i hi hn)⟩
theorem Chg.trans (h : Chg S w w1) (k : Chg S w1 w2) : Chg S w w2 := h.then_ k (fun _ h => .inl h)
theorem Chg.mono (h : Chg S w w1) (hs : ∀ k, S k → S2 k) : Chg S2 w w1 := ⟨h.os, h.tape, h.output, h.size, fun i hi hn => h.block i hi (fun hk => hn (hs i hk))⟩
theorem Chg.of_below (h : Below w.heap.size w w1) (S : Nat → Prop) : Chg S w w1 := ⟨h.os, h.tape, h.output, h.size, fun i hi _ => h.block i hi⟩
theorem Chg.to_below (h : Chg S w w1) (hS : ∀ k, S k → B ≤ k) (hB : B ≤ w.heap.size) : Below B w w1 := ⟨h.os, h.tape, h.output, h.size, fun k hk => h.block k (by omega) (fun hs => by have := hS k hs; omega)⟩
theorem Chg.below (h : Chg S w w1) (k : Below w1.heap.size w1 w2) : Chg S w w2 := h.then_ (Chg.of_below k (fun _ => False)) (fun _ hk => hk.elim)
theorem Chg.alloc (h : Chg S w w1) (o : Obj) : Chg S w (w1.alloc o) := h.below (below_alloc (Below.refl _ _) o)
theorem Chg.drew (h : Chg S w w1) : Chg S w w1.drew := ⟨h.os, h.tape, h.output, h.size, h.block⟩
theorem Chg.drewN (h : Chg S w w1) (n : Nat) : Chg S w (w1.drewN n) := ⟨h.os, h.tape, h.output, h.size, h.block⟩
theorem Chg.set_ (h : Chg S w w1) {p : Addr} (hp : S p.block ∨ w.heap.size ≤ p.block) (u : Value) : Chg S w (w1.setCell p u) :=
 h.then_ (S2 := fun k => k = p.block) ⟨rfl, rfl, rfl, by simp [World.setCell], fun i _ hn => Below.heap_setCell w1 p u i hn⟩ (fun k hk => by rw [hk]; exact hp)
theorem Chg.grown (h : Chg S w w1) {row : Option Nat} (hg : w1.grownBy w2 row) (hr : ∀ k, row = some k → S k ∨ w.heap.size ≤ k) : Chg S w w2 :=
 h.then_ (S2 := fun k => row = some k) ⟨hg.os, hg.tape, hg.output, hg.size, fun i hi hn => hg.block i hi (fun he => hn he.symm)⟩ hr
theorem blk_chg {g : Nat} {o : Obj} (hb : w.heap[g]? = some o) (hk : Chg S w w1) (hne : ¬ S g) : w1.heap[g]? = some o := (hk.block g (blk_lt hb) hne).trans hb
theorem R_chg {α : Type} {d : Kd α} {e base : Nat} {ok : Nat → Prop} {v : Value} {xs : List α} (h : d.R e w base ok v xs) (hk : Chg S w w1) (hne : ∀ k, ok k → ¬ S k) : d.R e w1 base ok v xs := Kd.R_step h (fun k ho hlt => hk.block k hlt (hne k ho))
theorem R_chgT {α : Type} {d : Kd α} {e base : Nat} {ok : Nat → Prop} {v : Value} {xs : List α} (hE : d.E = []) (h : d.R e w base ok v xs) (hk : Chg S w w1) (hn : ∀ k cells, w.heap[k]? = some (.cells cells e (0, 0)) → ¬ S k) : d.R e w1 base ok v xs :=
 Kd.R_mono (R_chg (Kd.R_tight2 hE h) hk (fun k hk => by obtain ⟨cells, hc⟩ := Kd.R_typed h k hk.1.symm; exact hn k cells hc)) (fun _ h => h.2)
def OfTypes (ts : List Nat) (w : World) (S : Nat → Prop) : Prop := ∀ k, S k → k < w.heap.size → ∃ t cells, t ∈ ts ∧ w.heap[k]? = some (.cells cells t (0, 0))
theorem OfTypes.not {ts : List Nat} (h : OfTypes ts w S) {k t : Nat} {cells : Array Value} (hb : w.heap[k]? = some (.cells cells t (0, 0))) (ht : t ∉ ts) : ¬ S k := fun hs => by
 obtain ⟨t', cells', hm, hc⟩ := h k hs (blk_lt hb)
 rw [hb] at hc
 injection hc with hc
 injection hc with _ h2
 subst h2
 exact ht hm
theorem C_ofR {α : Type} {d : Kd α} {e base n c : Nat} {ok : Nat → Prop} {A : Option Addr} {xs : List α} (h : d.R e w base ok (.slice A n c) xs) : d.C w A xs.length xs := (Kd.R_reads' h).2.2
theorem below_drewN1 (w : World) (n : Nat) : Below w.heap.size w (w.drewN n) := pw_below_drewN (Below.refl _ _) n
theorem getD_lt {α : Type} (l : List α) (z : α) {n : Nat} (h : n < l.length) : l.getD n z = l[n] := by simp [List.getD, h]
theorem take_one {α : Type} (l : List α) (z : α) (x : Int) (h0 : 0 ≤ x) (h1 : x < l.length) : l.take x.toNat ++ [l.getD x.toNat z] = l.take (x + 1).toNat := by
 have e : (x + 1).toNat = x.toNat + 1 := by omega
 have hl : x.toNat < l.length := by omega
 rw [e, List.take_succ_eq_append_getElem hl]
 simp [List.getD, hl]
theorem max2_mx (k k' : IntKind) (x y : Int) : Builtin.max2 (.int k x) (.int k' y) = pure (.int k (mx x y)) := by rw [max2_int]; rfl
theorem min2_mn (k k' : IntKind) (x y : Int) : Builtin.min2 (.int k x) (.int k' y) = pure (.int k (mn x y)) := by rw [min2_int]; rfl
end
end Go.Proofs.Ytalimpniimgheaa.Fn
namespace Go.Proofs.Ytalimpniimgheaa.Fn
open Go.RowKit Go.Proofs.YtalimpniimgheaaW.PrintWords Go.Proofs.YtalimpniimgheaaW.PrintLast Go.Proofs.YtalimpniimgheaaW.PrintMore
set_option linter.unusedVariables false
set_option linter.unusedSimpArgs false
attribute [local go_sem] max2_mx min2_mn max_two min_two
def IsLog (w : World) (base g : Nat) (A : Option Addr) (c : Nat) (xs : List S65) (room lost : Int) : Prop :=
 w.heap[g]? = some (.cells #[.slice A xs.length c, .int .i64 room, .int .i64 lost] 105 (0, 0)) ∧ base ≤ g ∧ k65.R 65 w base (fun k => k ≠ g) (.slice A xs.length c) xs
def IsRef (w : World) (base g : Nat) (A : Option Addr) (c : Nat) (xs : List S64) (room lost : Int) : Prop :=
 w.heap[g]? = some (.cells #[.int .i64 room, .slice A xs.length c, .int .i64 lost] 36 (0, 0)) ∧ base ≤ g ∧ k64.R 64 w base (fun k => k ≠ g) (.slice A xs.length c) xs
def rowS (g : Nat) (A : Option Addr) (k : Nat) : Prop := k = g ∨ ∃ a, A = some a ∧ k = a.block
section
variable {w w1 : World} {base g : Nat} {A : Option Addr} {c : Nat} {xs : List S65} {ys : List S64} {room lost : Int} {S : Nat → Prop}
theorem IsLog.below (h : IsLog w base g A c xs room lost) (hb : Below w.heap.size w w1) : IsLog w1 base g A c xs room lost := ⟨blk_below h.1 hb, h.2.1, Kd.R_below h.2.2 hb⟩
theorem IsRef.below (h : IsRef w base g A c ys room lost) (hb : Below w.heap.size w w1) : IsRef w1 base g A c ys room lost := ⟨blk_below h.1 hb, h.2.1, Kd.R_below h.2.2 hb⟩
theorem IsLog.types (h : IsLog w base g A c xs room lost) : OfTypes [105, 65] w (rowS g A) := by
 rintro k (rfl | ⟨a, rfl, rfl⟩) _
 ·exact ⟨105, _, by simp, h.1⟩
 ·obtain ⟨cells, hc⟩ := Kd.R_typed h.2.2 a.block (by simp [Value.ownBlock])
  exact ⟨65, cells, by simp, hc⟩
theorem IsRef.types (h : IsRef w base g A c ys room lost) : OfTypes [36, 64] w (rowS g A) := by
 rintro k (rfl | ⟨a, rfl, rfl⟩) _
 ·exact ⟨36, _, by simp, h.1⟩
 ·obtain ⟨cells, hc⟩ := Kd.R_typed h.2.2 a.block (by simp [Value.ownBlock])
  exact ⟨64, cells, by simp, hc⟩
theorem IsLog.low (h : IsLog w base g A c xs room lost) : ∀ k, rowS g A k → base ≤ k := by
 rintro k (rfl | ⟨a, rfl, rfl⟩)
 ·exact h.2.1
 ·exact Kd.R_base h.2.2 a.block (by simp [Value.ownBlock])
theorem IsRef.low (h : IsRef w base g A c ys room lost) : ∀ k, rowS g A k → base ≤ k := by
 rintro k (rfl | ⟨a, rfl, rfl⟩)
 ·exact h.2.1
 ·exact Kd.R_base h.2.2 a.block (by simp [Value.ownBlock])
theorem IsLog.chg (h : IsLog w base g A c xs room lost) (hk : Chg S w w1) (ht : OfTypes [36, 64] w S) : IsLog w1 base g A c xs room lost :=
 ⟨blk_chg h.1 hk (ht.not h.1 (by decide)), h.2.1, R_chgT rfl h.2.2 hk (fun k cells hb => ht.not hb (by decide))⟩
theorem IsRef.chg (h : IsRef w base g A c ys room lost) (hk : Chg S w w1) (ht : OfTypes [105, 65] w S) : IsRef w1 base g A c ys room lost :=
 ⟨blk_chg h.1 hk (ht.not h.1 (by decide)), h.2.1, R_chgT rfl h.2.2 hk (fun k cells hb => ht.not hb (by decide))⟩
end
def roomOf (r : Int) : Int := mn (mx r 0) 65536
theorem roomOf_bd (r : Int) : 0 ≤ roomOf r ∧ roomOf r ≤ 65536 := by unfold roomOf mn mx; (repeat' split) <;> omega
set_option maxHeartbeats 2000000 in
set_option maxRecDepth 100000 in
theorem jnew_calls (r : Int) (w : World) : Calls Try.prog 15 #[.int .i64 r] w fun e w' => e = .returned (.pointer (some ⟨w.heap.size, 0, none⟩)) ∧ IsLog w' w.heap.size w.heap.size none 0 [] (roomOf r) 0 ∧ Below w.heap.size w w' := by
 have hu := Try.underlying105
 go_enter Try.func15, Try.ntmps15
 go_wp2
 go_ret
 exact ⟨rfl, ⟨heap_alloc_new _ _, Nat.le_refl _, Kd.R_nil _ _ _ _ _⟩, below_alloc (Below.refl _ _) _⟩
set_option maxHeartbeats 2000000 in
set_option maxRecDepth 100000 in
theorem rnew_calls (r : Int) (w : World) : Calls Try.prog 16 #[.int .i64 r] w fun e w' => e = .returned (.pointer (some ⟨w.heap.size, 0, none⟩)) ∧ IsRef w' w.heap.size w.heap.size none 0 [] (roomOf r) 0 ∧ Below w.heap.size w w' := by
 have hu := Try.underlying36
 go_enter Try.func16, Try.ntmps16
 go_wp2
 go_ret
 exact ⟨rfl, ⟨heap_alloc_new _ _, Nat.le_refl _, Kd.R_nil _ _ _ _ _⟩, below_alloc (Below.refl _ _) _⟩
section
variable {base g : Nat} {A : Option Addr} {c : Nat} {xs : List S65} {room lost : Int}
set_option maxHeartbeats 2000000 in
set_option maxRecDepth 100000 in
theorem len_calls (w : World) (h : IsLog w base g A c xs room lost) : Calls Try.prog 20 #[.pointer (some ⟨g, 0, none⟩)] w fun e w' => e = .returned (.int .i64 xs.length) ∧ w = w' := by
 have hu := Try.underlying105
 have hx0 := (blk_cell h.1 0).trans rfl
 clear h
 go_enter Try.func20, Try.ntmps20
 go_wp2
 go_ret
 simp
set_option maxHeartbeats 2000000 in
set_option maxRecDepth 100000 in
theorem lost_calls (w : World) (h : IsLog w base g A c xs room lost) : Calls Try.prog 21 #[.pointer (some ⟨g, 0, none⟩)] w fun e w' => e = .returned (.int .i64 lost) ∧ w = w' := by
 have hu := Try.underlying105
 have hx0 := (blk_cell h.1 2).trans rfl
 clear h
 go_enter Try.func21, Try.ntmps21
 go_wp2
 go_ret
 simp
end
end Go.Proofs.Ytalimpniimgheaa.Fn
namespace Go.Proofs.Ytalimpniimgheaa.Fn
open Go.RowKit Go.Proofs.YtalimpniimgheaaW.PrintWords Go.Proofs.YtalimpniimgheaaW.PrintLast Go.Proofs.YtalimpniimgheaaW.PrintMore
set_option linter.unusedVariables false
set_option linter.unusedSimpArgs false
attribute [local go_sem] max2_mx min2_mn max_two min_two
theorem clear_row {P : Program} {α : Type} {d : Kd α} {e t base g n cap m c' : Nat} {ok : Nat → Prop} {w : World} {xs : List α} (h : d.R e w base ok (.slice (some ⟨g, 0, none⟩) n cap) xs) (hm : m < n) (ht : P.underlying t = some (.slice e)) {z : Value} (hz : ∀ w, (zeroValue e).run P w = .ok z w) (hzs : z.cells.size = d.sz) (h1 : ∀ u ∈ z.cells.toList, u.oneCell' = true) :
  ∃ w', (∀ ty, (Builtin.clear_ #[t] ty #[.slice (some ⟨g, m * d.sz, none⟩) (n - m) c']).run P w = .ok (.tuple #[]) w') ∧ d.R e w' base ok (.slice (some ⟨g, 0, none⟩) m cap) (xs.take m) ∧ Chg (fun k => k = g) w w' := by
 have hn : n = xs.length := (Kd.R_reads' h).1
 have hT := Kd.R_take h (m := m) (by omega)
 obtain ⟨hok, inner, hown, hr⟩ := hT
 obtain ⟨_, inner0, hown0, _⟩ := h
 rcases hown0.2 with ⟨hv, _⟩ | ⟨g', cap', cur, hv, hb, hh, hnc, hcm, hcs, _⟩
 ·cases hv
 injection hv with ha _ hc
 injection ha with ha
 injection ha with hg'
 subst hg'; subst hc
 have hsz : (Builtin.zeroCells z.cells (n - m)).toList.length = (n - m) * d.sz := by simp [Builtin.zeroCells, hzs]
 have hone : ∀ v ∈ (Builtin.zeroCells z.cells (n - m)).toList, v.oneCell' = true := by
  intro v hv
  simp only [Builtin.zeroCells, Array.toList_map, List.mem_map] at hv
  obtain ⟨i, hi, rfl⟩ := hv
  have hp : 0 < z.cells.size := by
   rcases Nat.eq_zero_or_pos z.cells.size with h0 | h0
   ·simp [h0] at hi
   ·exact h0
  have hlt : i % z.cells.size < z.cells.size := Nat.mod_lt _ hp
  rw [getElem!_pos z.cells (i % z.cells.size) hlt]
  exact h1 _ (by simp)
 have hle : m * d.sz + (n - m) * d.sz ≤ cap * d.sz := by rw [← Nat.add_mul]; exact Nat.mul_le_mul_right _ (by omega)
 have hrun := run_storeCells_at (P := P) g (m * d.sz) e (Builtin.zeroCells z.cells (n - m)).toList 0 cur w hh (by rw [hsz, hcs]; omega) hone
 refine ⟨w.setRow g (cur.toList.take (m * d.sz + 0) ++ (Builtin.zeroCells z.cells (n - m)).toList ++ cur.toList.drop (m * d.sz + 0 + (Builtin.zeroCells z.cells (n - m)).toList.length)).toArray, fun ty => ?_, ?_, ?_⟩
 ·obtain ⟨q, hq⟩ : ∃ q, n - m = q + 1 := ⟨n - m - 1, by omega⟩
  rw [hq] at hrun ⊢
  simp [Builtin.clear_, run_underlying ht, hz]
  rw [hrun]
  simp
 ·have hcur := setRow_heap w g cur (cur.toList.take (m * d.sz + 0) ++ (Builtin.zeroCells z.cells (n - m)).toList ++ cur.toList.drop (m * d.sz + 0 + (Builtin.zeroCells z.cells (n - m)).toList.length)).toArray e (0, 0) hh
  refine ⟨hok, inner, ⟨hown.1,   .inr ⟨g, cap, _, (by rw [show (xs.take m).length = m by (rw [List.length_take]; omega)]), hb, hcur, ?_, hcm, ?_, ?_⟩⟩, ?_⟩
  ·rw [List.length_take]; omega
  ·simp only [List.size_toArray, List.length_append, List.length_take, List.length_drop, Array.length_toList, hsz, hcs]; omega
  ·rcases hown.2 with ⟨hv2, _⟩ | ⟨g2, cap2, cur2, hv2, _, hh2, _, _, _, htk⟩
   ·cases hv2
   injection hv2 with ha2 _ _
   injection ha2 with ha2
   injection ha2 with hg2
   subst hg2
   rw [hh] at hh2
   injection hh2 with hh2
   injection hh2 with hh2 _ _
   subst hh2
   rw [← htk]
   have hl : (xs.take m).length = m := by rw [List.length_take]; omega
   rw [hl]
   simp only [Nat.add_zero]
   rw [List.append_assoc, List.take_append_of_le_length (by simp [hcs]; exact Nat.mul_le_mul_right _ (by omega)), List.take_take, Nat.min_self]
  ·refine hr.imp_ (fun x cs hM => d.M_move (fun k hk => ?_) hM)
   exact setRow_other w g k _ (fun e => hk.2 (by rw [e]; simp [Value.ownBlock]))
 ·exact ⟨rfl, rfl, rfl, by simp [World.setRow], fun k _ hk => setRow_other w g k _ hk⟩
def IdxOf {α : Type} (p : α → Bool) (xs : List α) (z : α) (r : Int) : Prop := (r = -1 ∧ ∀ k, k < xs.length → p (xs.getD k z) = false) ∨ ∃ k : Nat, k < xs.length ∧ r = (k : Int) ∧ p (xs.getD k z) = true ∧ ∀ j, j < k → p (xs.getD j z) = false
theorem filter_none {α : Type} {p : α → Bool} {xs : List α} {z : α} (h : ∀ k, k < xs.length → p (xs.getD k z) = false) : xs.filter (fun x => !p x) = xs := by
 rw [List.filter_eq_self]
 intro x hx
 obtain ⟨k, hk, rfl⟩ := List.mem_iff_getElem.1 hx
 have := h k hk
 rw [getD_lt xs z hk] at this
 rw [this]; rfl
theorem filter_upto {α : Type} {p : α → Bool} {xs : List α} {z : α} {k : Nat} (hk : k < xs.length) (ht : p (xs.getD k z) = true) (h : ∀ j, j < k → p (xs.getD j z) = false) : (xs.take (k + 1)).filter (fun x => !p x) = xs.take k := by
 rw [List.take_succ_eq_append_getElem hk, List.filter_append]
 have h1 : (xs.take k).filter (fun x => !p x) = xs.take k := filter_none (z := z) (fun j hj => by
  rw [List.length_take] at hj
  have h2 := h j (by omega)
  have e : (xs.take k).getD j z = xs.getD j z := by
   rw [getD_lt _ z (by rw [List.length_take]; omega), getD_lt xs z (by omega), List.getElem_take]
  rw [e]; exact h2)
 rw [h1]
 rw [getD_lt xs z hk] at ht
 simp [ht]
structure Mid {α : Type} (p : α → Bool) (xs zs : List α) (i j : Nat) : Prop where
 len : zs.length = xs.length
 lt : i < j
 le : j ≤ xs.length
 kept : zs.take i = (xs.take j).filter (fun x => !p x)
 rest : zs.drop j = xs.drop j
theorem Mid.get {α : Type} {p : α → Bool} {xs zs : List α} {i j : Nat} (h : Mid p xs zs i j) (z : α) (hj : j < xs.length) : zs.getD j z = xs.getD j z := by
 rw [getD_lt zs z (by rw [h.len]; exact hj), getD_lt xs z hj]
 have h1 : (zs.drop j)[0]? = (xs.drop j)[0]? := by rw [h.rest]
 rw [List.getElem?_drop, List.getElem?_drop, Nat.add_zero, List.getElem?_eq_getElem (by rw [h.len]; exact hj), List.getElem?_eq_getElem hj] at h1
 exact Option.some.inj h1
theorem Mid.drop_ {α : Type} {p : α → Bool} {xs zs : List α} {i j : Nat} (h : Mid p xs zs i j) (z : α) (hj : j < xs.length) (hp : p (xs.getD j z) = true) : Mid p xs zs i (j + 1) := by
 refine ⟨h.len, by have := h.lt; omega, hj, ?_, ?_⟩
 ·rw [List.take_succ_eq_append_getElem hj, List.filter_append, ← h.kept]
  rw [getD_lt xs z hj] at hp
  simp [hp]
 ·have := congrArg (List.drop 1) h.rest
  rwa [List.drop_drop, List.drop_drop] at this
theorem Mid.keep_ {α : Type} {p : α → Bool} {xs zs : List α} {i j : Nat} (h : Mid p xs zs i j) (z : α) (hj : j < xs.length) (hp : p (xs.getD j z) = false) : Mid p xs (zs.set i (xs.getD j z)) (i + 1) (j + 1) := by
 have hi : i < zs.length := by have := h.lt; have := h.len; omega
 refine ⟨by rw [List.length_set]; exact h.len, by have := h.lt; omega, hj, ?_, ?_⟩
 ·rw [List.take_succ_eq_append_getElem hj, List.filter_append, ← h.kept, List.take_succ_eq_append_getElem (by rw [List.length_set]; exact hi), List.take_set_of_le (Nat.le_refl _), List.getElem_set_self]
  rw [getD_lt xs z hj] at hp ⊢
  simp [hp]
 ·rw [List.drop_set_of_lt (by have := h.lt; omega)]
  have := congrArg (List.drop 1) h.rest
  rwa [List.drop_drop, List.drop_drop] at this
section
variable (A : Option Addr) (c : Nat) (xs : List S65) (bx : Addr) (p : S65 → Bool)
set_option maxHeartbeats 4000000 in
set_option maxRecDepth 100000 in
theorem idx69_calls (w : World) (h : k65.C w A xs.length xs) (hl : xs.length ≤ 100000) (hp : ∀ wr x, Below w.heap.size w wr → Calls Try.prog 69 #[.agg #[.int .i64 x.f0, .int .i64 x.f1, .int .i64 x.f2, .int .i64 x.f3], .pointer (some bx)] wr fun e w' => e = .returned (.bool (p x)) ∧ Below wr.heap.size wr w') :
  Calls Try.prog 109 #[.slice A xs.length c, .func (.func 69) #[] #[.pointer (some bx)]] w fun e w' => ∃ r, e = .returned (.int .i64 r) ∧ IdxOf p xs z65 r ∧ Below w.heap.size w w' := by
 have hu := Try.underlying65
 have HC := asd h
 have HP := asd hp
 have HL := asd hl
 clear h hp hl
 go_enter Try.func109, Try.ntmps109
 go_wp2
 go_loopw [8] (fun v wr => ∃ i : Nat, v = .int .i64 i ∧ Aside0 (i ≤ xs.length ∧ ∀ j, j < i → p (xs.getD j z65) = false) ∧ Aside0 (Below w.heap.size w wr)) (fun v _ => xs.length - (intOf v).toNat)
 case atStart => exact ⟨0, rfl, ⟨by omega, fun j hj => by omega⟩, ⟨Below.refl _ _⟩⟩
 case round =>
  obtain ⟨i, rfl, HX, HB⟩ := hrel
  have h99 : (xs.length : Int) ≤ 100000 := by have := HL.out; omega
  by_cases hlt : i < xs.length
  ·have q0 : ((i : Int) < (xs.length : Int)) = True := eq_true (by omega)
   have q1 : decide ((i : Int) < (xs.length : Int)) = true := decide_eq_true (by omega)
   have q2 : decide (i < xs.length) = true := decide_eq_true hlt
   obtain ⟨ad, rfl, y0, y1, y2, y3⟩ := at_T65 (Kd.C_below HC.out HB.out) (i : Int) (by omega) (by omega)
   simp only [Int.toNat_natCast] at y0 y1 y2 y3
   have HR : Aside0 (rd_T65 xs (i : Int) = xs.getD i z65) := ⟨by unfold rd_T65; rw [Int.toNat_natCast]⟩
   generalize rd_T65 xs (i : Int) = x at *
   have HPX := asd (fun wr hb2 => HP.out wr x hb2)
   cases hb : p x with
   | true =>
    rw [hb] at HPX
    have HT : Aside0 (p (xs.getD i z65) = true) := ⟨by rw [← HR.out]; exact hb⟩
    clear hb HR
    go_wp2_with (first | (go_at_call 69; refine (HPX.out _ HB.out).mono ?_; rintro e w1 ⟨rfl, hb⟩; have HB1 := asd (below_step HB.out hb); clear hb))
    go_ret
    exact ⟨_, rfl, .inr ⟨i, hlt, rfl, HT.out, HX.out.2⟩, HB1.out⟩
   | false =>
    rw [hb] at HPX
    have HT : Aside0 (p (xs.getD i z65) = false) := ⟨by rw [← HR.out]; exact hb⟩
    clear hb HR
    go_wp2_with (first | (go_at_call 69; refine (HPX.out _ HB.out).mono ?_; rintro e w1 ⟨rfl, hb⟩; have HB1 := asd (below_step HB.out hb); clear hb))
    go_roundw
    case rel => exact ⟨i + 1, by go_num, ⟨by omega, fun j hj => by
     rcases Nat.lt_or_ge j i with h1 | h1
     ·exact HX.out.2 j h1
     ·rw [show j = i by omega]; exact HT.out⟩, HB1⟩
    case measure => simp [intOf]; omega
  ·have q1 : decide ((i : Int) < (xs.length : Int)) = false := decide_eq_false (by omega)
   have q2 : decide (i < xs.length) = false := decide_eq_false hlt
   have e : i = xs.length := by have := HX.out.1; omega
   subst e
   clear hlt
   go_wp2
   go_ret
   exact ⟨-1, rfl, .inl ⟨rfl, HX.out.2⟩, HB.out⟩
end
section
variable (g c : Nat) (xs : List S65) (bx : Addr) (p : S65 → Bool)
set_option maxHeartbeats 8000000 in
set_option maxRecDepth 100000 in
theorem del69_calls (base : Nat) (ok : Nat → Prop) (w : World) (h : k65.R 65 w base ok (.slice (some ⟨g, 0, none⟩) xs.length c) xs) (hl : xs.length ≤ 100000) (hp : ∀ wr x, Chg (fun k => k = g) w wr → Calls Try.prog 69 #[.agg #[.int .i64 x.f0, .int .i64 x.f1, .int .i64 x.f2, .int .i64 x.f3], .pointer (some bx)] wr fun e w' => e = .returned (.bool (p x)) ∧ Below wr.heap.size wr w') :
  Calls Try.prog 68 #[.slice (some ⟨g, 0, none⟩) xs.length c, .func (.func 69) #[] #[.pointer (some bx)]] w fun e w' => e = .returned (.slice (some ⟨g, 0, none⟩) (xs.filter (fun x => !p x)).length c) ∧ k65.R 65 w' base ok (.slice (some ⟨g, 0, none⟩) (xs.filter (fun x => !p x)).length c) (xs.filter (fun x => !p x)) ∧ Chg (fun k => k = g) w w' := by
 have hu := Try.underlying65
 have hu2 := Try.underlying31
 have HR := asd h
 have HP := asd hp
 have HL := asd hl
 have HCP := asd (show xs.length ≤ c from (Kd.R_reads' h).2.1)
 have IDX := asd (idx69_calls (some ⟨g, 0, none⟩) c xs bx p w (C_ofR h) hl (fun wr x hb => HP.out wr x (Chg.of_below hb _)))
 clear h hp hl
 go_enter Try.func68, Try.ntmps68
 go_wp2_with fail
 refine IDX.out.mono ?_
 rintro e w1 ⟨r, rfl, hr, hb⟩
 have HR1 := asd (Kd.R_below HR.out hb)
 have HC1 := asd (Chg.of_below hb (fun k => k = g))
 clear hb IDX
 rcases hr with ⟨rfl, hall⟩ | ⟨k, hk, rfl, ht, hall⟩
 ·have HF := asd (filter_none hall)
  clear hall
  go_wp2
  go_ret
  rw [HF.out]
  exact ⟨rfl, HR1.out, HC1.out⟩
 have M0 : Aside0 (Mid p xs xs k (k + 1)) := ⟨⟨rfl, by omega, hk, (filter_upto hk ht hall).symm, rfl⟩⟩
 have h99 : (xs.length : Int) ≤ 100000 := by have := HL.out; omega
 have k99 : (k : Int) < (xs.length : Int) := by omega
 have kne : ((k : Int) == -1) = false := beq_eq_false_iff_ne.2 (by omega)
 have kne2 : decide ((k : Int) = -1) = false := decide_eq_false (by omega)
 clear hall ht
 go_wp2
 go_loopw [5, 6] (fun v5 v6 wr => ∃ (i j : Nat) (zs : List S65), v5 = .int .i64 i ∧ v6 = .int .i64 j ∧ Aside0 (Mid p xs zs i j) ∧ Aside0 (k65.R 65 wr base ok (.slice (some ⟨g, 0, none⟩) xs.length c) zs) ∧ Aside0 (Chg (fun k => k = g) w wr)) (fun _ v _ => xs.length - (intOf v).toNat)
 case atStart => exact ⟨k, k + 1, xs, rfl, by go_num, M0, HR1, HC1⟩
 case round =>
  clear M0 HR1 HC1
  obtain ⟨i, j, zs, rfl, rfl, HM, HZ, HC⟩ := hrel
  have hjl : (j : Int) ≤ (xs.length : Int) := by have := HM.out.le; omega
  have hij : (i : Int) < (j : Int) := by have := HM.out.lt; omega
  by_cases hlt : j < xs.length
  ·have q0 : ((j : Int) < (xs.length : Int)) = True := eq_true (by omega)
   have q1 : decide ((j : Int) < (xs.length : Int)) = true := decide_eq_true (by omega)
   have q2 : decide (j < xs.length) = true := decide_eq_true hlt
   obtain ⟨ad, hae, y0, y1, y2, y3⟩ := at_T65 (by have h2 := C_ofR HZ.out; rw [HM.out.len] at h2; exact h2) (j : Int) (by omega) (by omega)
   obtain rfl := Option.some.inj hae
   simp only [Int.toNat_natCast, add_plain] at y0 y1 y2 y3
   have HRD : Aside0 (rd_T65 zs (j : Int) = xs.getD j z65) := ⟨by unfold rd_T65; rw [Int.toNat_natCast]; exact HM.out.get z65 hlt⟩
   generalize rd_T65 zs (j : Int) = x at *
   have HPX := asd (fun wr hb2 => HP.out wr x hb2)
   have HXA := asd (heap_alloc_new wr (.cells #[.int .i64 x.f0, .int .i64 x.f1, .int .i64 x.f2, .int .i64 x.f3] 65))
   cases hb : p x with
   | true =>
    rw [hb] at HPX
    have NX : Aside0 (Mid p xs zs i (j + 1)) := ⟨HM.out.drop_ z65 hlt (by rw [← HRD.out]; exact hb)⟩
    clear hb HRD
    go_wp2_with (first | (go_at_call 69; refine (HPX.out _ (HC.out.alloc _)).mono ?_; rintro e w3 ⟨rfl, hb⟩; have HZ3 := asd (Kd.R_below (Kd.R_alloc HZ.out _) hb); have HC3 := asd ((HC.out.alloc _).below hb); clear hb))
    go_roundw
    case rel => exact ⟨i, j + 1, zs, rfl, by go_num, NX, HZ3, HC3⟩
    case measure => simp [intOf]; omega
   | false =>
    rw [hb] at HPX
    have NX : Aside0 (Mid p xs (zs.set i x) (i + 1) (j + 1)) := ⟨by have h2 := HM.out.keep_ z65 hlt (by rw [← HRD.out]; exact hb); rw [← HRD.out] at h2; exact h2⟩
    clear hb HRD
    go_wp2_with fail
    refine (HPX.out _ (HC.out.alloc _)).mono ?_
    rintro e w3 ⟨rfl, hb⟩
    have HZ3 := asd (Kd.R_below (Kd.R_alloc HZ.out _) hb)
    have HC3 := asd ((HC.out.alloc _).below hb)
    have HXB := asd (blk_below HXA.out hb)
    clear hb HZ HC HXA y0 y1 y2 y3
    have hq0 := (blk_cell HXB.out 0).trans rfl; have hq1 := (blk_cell HXB.out 1).trans rfl; have hq2 := (blk_cell HXB.out 2).trans rfl; have hq3 := (blk_cell HXB.out 3).trans rfl
    have i0 : (0 ≤ (i : Int)) = True := eq_true (by omega)
    have i1 : ((i : Int) < (xs.length : Int)) = True := eq_true (by omega)
    obtain ⟨cc, hcl, hMM, hcc, hfz⟩ := Kd.R_elem HZ3.out z65 (i : Int) (by omega) (by omega)
    have HCL := asd hcl
    have HCC := asd hcc
    clear hcl hMM hcc hfz
    go_wp2_with (first | ((with_reducible refine gate_ (.store 65 (.tmp 33) (.tmp 32)) rfl ?_); refine Kd.R_store k65 (w0 := w3) base rfl rfl 65 (.tmp 33) (.tmp 32) rfl 65 (i : Int) 0 zs x (.agg #[.int .i64 x.f0, .int .i64 x.f1, .int .i64 x.f2, .int .i64 x.f3]) [.int .i64 x.f0, .int .i64 x.f1, .int .i64 x.f2, .int .i64 x.f3] cc ok (fun _ => False) rfl (by simp only [Int.toNat_natCast, Nat.add_zero]; rfl) rfl rfl rfl (by simp [Value.oneCell']) HZ3.out (by omega) (by omega) HCL.out HCC.out (Nat.le_refl 4) (by rw [List.take_zero, List.nil_append, List.drop_of_length_le (by rw [HCL.out]; exact Nat.le_refl 4), List.append_nil]; exact k65_mkM _ _ _ _) (fun _ hk => hk.elim) (Below.refl _ _) ?_; intro w4 ho hb hgr; have HZ4 := asd ho; have HC4 := asd (HC3.out.grown hgr (fun k hk => .inl (by injection hk with hk; exact hk.symm))); clear ho hb hgr))
    go_roundw
    case rel => exact ⟨i + 1, j + 1, zs.set i x, by go_num, by go_num, NX, ⟨by have h2 := HZ4.out; rw [Int.toNat_natCast] at h2; exact h2⟩, HC4⟩
    case measure => simp [intOf]; omega
  ·have q1 : decide ((j : Int) < (xs.length : Int)) = false := decide_eq_false (by omega)
   have q2 : decide (j < xs.length) = false := decide_eq_false hlt
   have e : j = xs.length := by have := HM.out.le; omega
   subst e
   have KP : Aside0 (zs.take i = xs.filter (fun x => !p x)) := ⟨by have := HM.out.kept; rwa [List.take_length] at this⟩
   have KL : Aside0 (i = (xs.filter (fun x => !p x)).length) := ⟨by rw [← KP.out, List.length_take, HM.out.len]; omega⟩
   obtain ⟨w4, hcl, hR4, hC4⟩ := clear_row (P := Try.prog) (t := 31) (m := i) (c' := c - i) HZ.out (by omega) Try.underlying31 (z := .agg #[.int .i64 0, .int .i64 0, .int .i64 0, .int .i64 0]) (fun w => by kernel_rfl) rfl (by intro u hu; have h2 : u ∈ [.int .i64 0, .int .i64 0, .int .i64 0, .int .i64 0] := hu; simp only [List.mem_cons, List.not_mem_nil, or_false, or_self] at h2; rw [h2]; rfl)
   have HZ4 := asd hR4
   have HC4 := asd (HC.out.trans hC4)
   replace hcl : ∀ ty, (Builtin.clear_ #[31] ty #[.slice (some ⟨g, i * 4, none⟩) (xs.length - i) (c - i)]).run Try.prog wr = .ok (.tuple #[]) w4 := hcl
   have i0 : (0 ≤ (i : Int)) = True := eq_true (by omega)
   have i1 : ((i : Int) ≤ (xs.length : Int)) = True := eq_true (by omega)
   have i2 : ((i : Int) ≤ (c : Int)) = True := eq_true (by have := HCP.out; omega)
   have i3 : ((xs.length : Int) ≤ (c : Int)) = True := eq_true (by have := HCP.out; omega)
   have i4 : (c = i) = False := eq_false (by have := HCP.out; omega)
   clear hR4 hC4 hlt
   go_wp2
   go_ret
   rw [← KL.out]
   exact ⟨rfl, by rw [← KP.out]; exact HZ4.out, HC4.out⟩
end
end Go.Proofs.Ytalimpniimgheaa.Fn
namespace Go.Proofs.Ytalimpniimgheaa.Fn
open Go.RowKit Go.Proofs.YtalimpniimgheaaW.PrintWords Go.Proofs.YtalimpniimgheaaW.PrintLast Go.Proofs.YtalimpniimgheaaW.PrintMore
set_option linter.unusedVariables false
set_option linter.unusedSimpArgs false
attribute [local go_sem] max2_mx min2_mn max_two min_two
theorem pol_int {w : World} {A : Option Addr} {n : Nat} {ys : List Int} (h : Kd.C (Kd.int .i64) w A n ys) (i : Int) (h0 : 0 ≤ i) (h1 : i < n) : ∃ ad, A = some ad ∧ w.cell? (ad.add i.toNat) = some (.int .i64 (ys.getD i.toNat 0)) := by
 obtain ⟨ad, cc, rfl, _, hK, hc0⟩ := Kd.C_get h 0 i h0 h1
 have ee : cc = [.int .i64 (ys.getD i.toNat 0)] := hK
 subst ee
 refine ⟨ad, rfl, ?_⟩
 have h := hc0 0 _ rfl
 rwa [show i.toNat * (Kd.int .i64).sz + 0 = i.toNat from Nat.mul_one _] at h
theorem idx_any {α : Type} {p : α → Bool} {xs : List α} {z : α} {r : Int} (h : IdxOf p xs z r) : decide (r ≥ 0) = xs.any p := by
 rcases h with ⟨rfl, hall⟩ | ⟨k, hk, rfl, ht, _⟩
 ·symm
  rw [show decide ((-1 : Int) ≥ 0) = false from rfl, List.any_eq_false]
  intro x hx
  obtain ⟨k, hk, rfl⟩ := List.mem_iff_getElem.1 hx
  have := hall k hk
  rw [getD_lt xs z hk] at this
  simp [this]
 ·symm
  rw [decide_eq_true (by omega), List.any_eq_true]
  exact ⟨xs[k], List.getElem_mem hk, by rw [getD_lt xs z hk] at ht; exact ht⟩
set_option maxHeartbeats 8000000 in
set_option maxRecDepth 100000 in
theorem clone67_calls (A0 : Option Addr) (c0 : Nat) (l0 : List S65) (w : World) (hr0 : Kd.C k65 w A0 l0.length l0) (hl : l0.length < 4398046511104) :
  Calls Try.prog 67 #[.slice A0 l0.length c0] w fun e w' => ∃ v0_ : Value, e = .returned (v0_) ∧ Kd.R k65 65 w' w.heap.size (fun _ => True) v0_ l0 ∧ Below w.heap.size w w' := by
 have HR0 := asd hr0
 have HC1 := asd hl
 clear hr0 hl
 have hq := fun (w : World) (a : Option Addr) n c => Lib.run_eql_slice_nil (P := Try.prog) w 31 65 a n c 0 0 Try.underlying31
 cases A0 with
 | none =>
  have e0 : l0 = [] := by
   rcases Nat.eq_zero_or_pos l0.length with h0 | h0
   ·exact List.eq_nil_of_length_eq_zero h0
   ·obtain ⟨ad, h, _⟩ := HR0.out.2.2 h0; cases h
  subst e0
  go_enter Try.func67, Try.ntmps67
  go_wp2
  go_ret
  exact ⟨_, rfl, Kd.R_nil _ _ _ _ _, Below.refl _ _⟩
 | some ad =>
  go_enter Try.func67, Try.ntmps67
  go_wp2_with (first | ((with_reducible refine gate_dst (N := 5) rfl ?_); refine Kd.R_lit k65 _ 65 ?hg (N := 5) ?hd (xs := ([] : List S65)) (inner := []) (ok := fun _ => True) (okp := fun _ => True) ?hr ?hp (fun _ hk => hk) trivial (Below.refl _ _) (Nat.le_refl _) (by simp) ?_; (case hd => rfl); (case hg => rfl); (case hr => first | (go_simp; done) | (go_simp; rfl)); (case hp => exact (Reps.none _ _)); intro v1 w1 ho hb hg hat; have HO := asd ho; have HB := asd hb; clear ho hb hg hat) | ((with_reducible refine gate_builtin (b := .append) (xs := #[.tmp 5, .tmp 6]) rfl ?_); at_builtin; refine Kd.R_append_rows k65 (w0 := w) w.heap.size rfl (.tmp 5) (.tmp 6) 31 65 (.agg #[.int .i64 0, .int .i64 0, .int .i64 0, .int .i64 0]) 32 rfl Try.underlying31 info65 rfl (by decide) (by omega) v1 [] l0 _ _ _ (fun _ => True) (fun _ => False) rfl rfl ?aO ?aR (fun _ _ h => h) (fun _ h => h.elim) ?aF ?aB ?aS ?aL ?_; (case aR => exact Kd.C_below HR0.out HB.out); (case aB => exact HB.out); (case aF => exact (fun _ _ => trivial)); (case aO => exact HO.out); (case aS => exact HB.out.size); (case aL => have := HC1.out; simp only [List.length_nil]; omega); intro v2 w2 ho2 hb2 hg2 hat2; have HO2 := asd ho2; have HB2 := asd hb2; clear ho2 hb2 hg2 hat2))
  go_ret
  exact ⟨_, rfl, HO2.out, HB2.out⟩
section
variable {base g : Nat} {A : Option Addr} {c : Nat} {xs : List S65} {room lost : Int}
set_option maxHeartbeats 2000000 in
set_option maxRecDepth 100000 in
theorem all_calls (w : World) (h : IsLog w base g A c xs room lost) (hl : xs.length ≤ 100000) : Calls Try.prog 24 #[.pointer (some ⟨g, 0, none⟩)] w fun e w' => ∃ v, e = .returned v ∧ Kd.R k65 65 w' w.heap.size (fun _ => True) v xs ∧ Below w.heap.size w w' := by
 have hu := Try.underlying105
 have hx0 := (blk_cell h.1 0).trans rfl
 have CL := asd (clone67_calls A c xs w (C_ofR h.2.2) (by omega))
 clear h hl
 go_enter Try.func24, Try.ntmps24
 go_wp2_with (first | (go_at_call 67; refine CL.out.mono ?_; rintro e w1 ⟨v, rfl, ho, hb⟩; have HO := asd ho; have HB := asd hb; clear ho hb))
 go_ret
 exact ⟨_, rfl, HO.out, HB.out⟩
end
section
variable (A : Option Addr) (c : Nat) (ks : List Int) (x : Int)
set_option maxHeartbeats 4000000 in
set_option maxRecDepth 100000 in
theorem index110_calls (w : World) (h : (Kd.int .i64).C w A ks.length ks) (hl : ks.length ≤ 100000) :
  Calls Try.prog 110 #[.slice A ks.length c, .int .i64 x] w fun e w' => ∃ r, e = .returned (.int .i64 r) ∧ IdxOf (fun y => decide (x = y)) ks 0 r ∧ w = w' := by
 have HC := asd h
 have HL := asd hl
 clear h hl
 go_enter Try.func110, Try.ntmps110
 go_wp2
 go_loop [8] (fun v => ∃ i : Nat, v = .int .i64 i ∧ Aside0 (i ≤ ks.length ∧ ∀ j, j < i → decide (x = ks.getD j 0) = false)) (fun v => ks.length - (intOf v).toNat)
 case atStart => exact ⟨0, rfl, ⟨by omega, fun j hj => by omega⟩⟩
 case round =>
  obtain ⟨i, rfl, HX⟩ := hrel
  have h99 : (ks.length : Int) ≤ 100000 := by have := HL.out; omega
  by_cases hlt : i < ks.length
  ·have q0 : ((i : Int) < (ks.length : Int)) = True := eq_true (by omega)
   have q1 : decide ((i : Int) < (ks.length : Int)) = true := decide_eq_true (by omega)
   have q2 : decide (i < ks.length) = true := decide_eq_true hlt
   obtain ⟨ad, rfl, y0⟩ := pol_int HC.out (i : Int) (by omega) (by omega)
   simp only [Int.toNat_natCast] at y0
   by_cases he : x = ks.getD i 0
   ·have HT : Aside0 (decide (x = ks.getD i 0) = true) := ⟨decide_eq_true he⟩
    have hb : (x == ks.getD i 0) = true := beq_iff_eq.2 he
    have hd : decide (x = ks.getD i 0) = true := decide_eq_true he
    generalize ks.getD i 0 = y at y0 hb hd
    clear he
    go_wp2
    go_ret
    exact ⟨_, rfl, .inr ⟨i, hlt, rfl, HT.out, HX.out.2⟩, rfl⟩
   ·have HT : Aside0 (decide (x = ks.getD i 0) = false) := ⟨decide_eq_false he⟩
    have hb : (x == ks.getD i 0) = false := beq_eq_false_iff_ne.2 he
    have hd : decide (x = ks.getD i 0) = false := decide_eq_false he
    generalize ks.getD i 0 = y at y0 hb hd
    clear he
    go_wp2
    go_round
    case rel => exact ⟨i + 1, by go_num, ⟨by omega, fun j hj => by
     rcases Nat.lt_or_ge j i with h1 | h1
     ·exact HX.out.2 j h1
     ·rw [show j = i by omega]; exact HT.out⟩⟩
    case measure => simp [intOf]; omega
  ·have q1 : decide ((i : Int) < (ks.length : Int)) = false := decide_eq_false (by omega)
   have q2 : decide (i < ks.length) = false := decide_eq_false hlt
   have e : i = ks.length := by have := HX.out.1; omega
   subst e
   clear hlt
   go_wp2
   go_ret
   exact ⟨-1, rfl, .inl ⟨rfl, HX.out.2⟩, rfl⟩
set_option maxHeartbeats 4000000 in
set_option maxRecDepth 100000 in
theorem contains70_calls (w : World) (h : (Kd.int .i64).C w A ks.length ks) (hl : ks.length ≤ 100000) :
  Calls Try.prog 70 #[.slice A ks.length c, .int .i64 x] w fun e w' => e = .returned (.bool (ks.any (fun y => decide (x = y)))) ∧ w = w' := by
 have IX := asd (index110_calls A c ks x w h hl)
 clear h hl
 go_enter Try.func70, Try.ntmps70
 go_wp2_with (first | (go_at_call 110; refine IX.out.mono ?_; rintro e w1 ⟨r, rfl, hr, rfl⟩; have HR := asd hr; clear hr))
 go_ret
 exact ⟨by rw [← idx_any HR.out]; rfl, rfl⟩
set_option maxHeartbeats 4000000 in
set_option maxRecDepth 100000 in
theorem clos69_calls (bx : Addr) (e : S65) (w : World) (hb : w.cell? bx = some (.slice A ks.length c)) (h : (Kd.int .i64).C w A ks.length ks) (hl : ks.length ≤ 100000) :
  Calls Try.prog 69 #[.agg #[.int .i64 e.f0, .int .i64 e.f1, .int .i64 e.f2, .int .i64 e.f3], .pointer (some bx)] w fun r w' => r = .returned (.bool (!(ks.any (fun y => decide (e.f1 = y))))) ∧ Below w.heap.size w w' := by
 have hu := Try.underlying65
 have CT := asd (fun w' (hbb : Below w.heap.size w w') => contains70_calls A c ks e.f1 w' (Kd.C_below h hbb) hl)
 clear h hl
 have hb2 := pw_cell_below (below_alloc (Below.refl _ _) (.cells #[.int .i64 e.f0, .int .i64 e.f1, .int .i64 e.f2, .int .i64 e.f3] 65)) hb
 go_enter Try.func69, Try.ntmps69
 go_wp2_with (first | (go_at_call 70; refine (CT.out _ (below_alloc (Below.refl _ _) _)).mono ?_; rintro r w1 ⟨rfl, rfl⟩))
 go_ret
 exact ⟨rfl, below_alloc (Below.refl _ _) _⟩
end
set_option maxHeartbeats 4000000 in
set_option maxRecDepth 100000 in
theorem del69_nil (bx : Addr) (p : S65 → Bool) (w : World) (hp : ∀ wr x, Below w.heap.size w wr → Calls Try.prog 69 #[.agg #[.int .i64 x.f0, .int .i64 x.f1, .int .i64 x.f2, .int .i64 x.f3], .pointer (some bx)] wr fun e w' => e = .returned (.bool (p x)) ∧ Below wr.heap.size wr w') :
  Calls Try.prog 68 #[.slice none 0 0, .func (.func 69) #[] #[.pointer (some bx)]] w fun e w' => e = .returned (.slice none 0 0) ∧ Below w.heap.size w w' := by
 have IDX := asd (idx69_calls none 0 ([] : List S65) bx p w (Kd.C_nil k65 w) (by simp) hp)
 clear hp
 go_enter Try.func68, Try.ntmps68
 go_wp2_with fail
 refine IDX.out.mono ?_
 rintro e w1 ⟨r, rfl, hr, hb⟩
 have HB := asd hb
 clear hb IDX
 rcases hr with ⟨rfl, hall⟩ | ⟨k, hk, rfl, ht, hall⟩
 ·clear hall
  go_wp2
  go_ret
  exact ⟨rfl, HB.out⟩
 ·simp at hk
section
variable {base g : Nat} {A : Option Addr} {c : Nat} {xs : List S65} {room lost : Int} {K : Option Addr} {d : Nat} {ks : List Int}
def ofKinds (ks : List Int) (xs : List S65) : List S65 := xs.filter (fun x => ks.any (fun y => decide (x.f1 = y)))
set_option maxHeartbeats 8000000 in
set_option maxRecDepth 100000 in
theorem of_calls (w : World) (h : IsLog w base g A c xs room lost) (hl : xs.length ≤ 100000) (hk : (Kd.int .i64).C w K ks.length ks) (hkl : ks.length ≤ 100000) :
  Calls Try.prog 25 #[.pointer (some ⟨g, 0, none⟩), .slice K ks.length d] w fun e w' => ∃ A' c', e = .returned (.slice A' (ofKinds ks xs).length c') ∧ (k65.C w' A' (ofKinds ks xs).length (ofKinds ks xs) ∧ (ofKinds ks xs).length ≤ c') ∧ Below w.heap.size w w' := by
 have BX := asd (heap_alloc_new w (.cells #[.slice K ks.length d] 23))
 have HA := asd (all_calls (w.alloc (.cells #[.slice K ks.length d] 23)) (h.below (below_alloc (Below.refl _ _) _)) hl)
 have HK := asd (Kd.C_below hk (below_alloc (Below.refl _ _) (.cells #[.slice K ks.length d] 23)))
 have HL := asd hl
 have HKL := asd hkl
 have HK0 := asd hk
 have HB0 := asd (below_alloc (Below.refl _ w) (.cells #[.slice K ks.length d] 23))
 clear h hl hk hkl
 go_enter Try.func25, Try.ntmps25
 go_wp2_with fail
 refine HA.out.mono ?_
 rintro e w1 ⟨v, rfl, ho, hb⟩
 have HO := asd ho
 have HB := asd (below_then HB0.out (by simp) hb)
 have HK1 := asd (Kd.C_below HK.out hb)
 have BX1 := asd (blk_below BX.out hb)
 clear ho hb HA BX HK HB0
 have FL : Aside0 (ofKinds ks xs = xs.filter (fun x => !(!(ks.any (fun y => decide (x.f1 = y)))))) := ⟨by unfold ofKinds; simp⟩
 obtain ⟨A1, c1, rfl⟩ := Kd.R_slice HO.out
 have CL := asd (fun wr x (hb : Below w1.heap.size w1 wr) => clos69_calls K d ks ⟨w.heap.size, 0, none⟩ x wr (pw_cell_below hb ((blk_cell BX1.out 0).trans rfl)) (Kd.C_below HK1.out hb) HKL.out)
 cases A1 with
 | none =>
  have e0 : xs = [] := by
   rcases Nat.eq_zero_or_pos xs.length with h0 | h0
   ·exact List.eq_nil_of_length_eq_zero h0
   ·obtain ⟨ad, h, _⟩ := (C_ofR HO.out).2.2 h0; cases h
  subst e0
  have c0 : c1 = 0 := by
   obtain ⟨_, inner, ho, _⟩ := HO.out
   rcases ho.2 with ⟨hv, _⟩ | ⟨g2, cap, cur, hv, _⟩
   ·injection hv
   ·cases hv
  subst c0
  have DN := asd (del69_nil ⟨w.heap.size, 0, none⟩ (fun x => !(ks.any (fun y => decide (x.f1 = y)))) w1 CL.out)
  go_wp2_with fail
  refine DN.out.mono ?_
  rintro e w2 ⟨rfl, hb⟩
  have HB2 := asd (below_step HB.out hb)
  clear hb
  go_wp2
  go_ret
  exact ⟨none, 0, rfl, ⟨Kd.C_nil _ _, Nat.le_refl _⟩, HB2.out⟩
 | some ad =>
  obtain ⟨g1, rfl⟩ := Kd.R_head HO.out
  have HG1 := asd (Kd.R_base HO.out g1 (by simp [Value.ownBlock]))
  have NE : Aside0 (w.heap.size ≠ g1) := ⟨by
   obtain ⟨cells, hc⟩ := Kd.R_typed HO.out g1 (by simp [Value.ownBlock])
   exact blk_ne BX1.out hc (by decide)⟩
  have KA : Aside0 (∀ wr, Chg (fun k => k = g1) w1 wr → (Kd.int .i64).C wr K ks.length ks ∧ wr.cell? ⟨w.heap.size, 0, none⟩ = some (.slice K ks.length d)) := ⟨fun wr hc => ⟨Kd.C_below HK0.out (HB.out.trans (hc.to_below (B := w.heap.size) (fun k hk => by subst hk; have := HG1.out; simp at this; omega) (below_size HB.out))), (blk_cell (blk_chg BX1.out hc NE.out) 0).trans rfl⟩⟩
  have DN : Aside0 (Calls Try.prog 68 #[.slice (some ⟨g1, 0, none⟩) xs.length c1, .func (.func 69) #[] #[.pointer (some ⟨w.heap.size, 0, none⟩)]] w1 fun e w' => e = .returned (.slice (some ⟨g1, 0, none⟩) (ofKinds ks xs).length c1) ∧ k65.R 65 w' (w.alloc (.cells #[.slice K ks.length d] 23)).heap.size (fun _ => True) (.slice (some ⟨g1, 0, none⟩) (ofKinds ks xs).length c1) (ofKinds ks xs) ∧ Chg (fun k => k = g1) w1 w') := ⟨by rw [FL.out]; exact del69_calls g1 c1 xs ⟨w.heap.size, 0, none⟩ (fun x => !(ks.any (fun y => decide (x.f1 = y)))) _ _ w1 HO.out HL.out (fun wr x hc => clos69_calls K d ks ⟨w.heap.size, 0, none⟩ x wr (KA.out wr hc).2 (KA.out wr hc).1 HKL.out)⟩
  go_wp2_with fail
  refine DN.out.mono ?_
  rintro e w2 ⟨rfl, ho2, hc⟩
  have HO2 := asd ho2
  have HB2 := asd (HB.out.trans (hc.to_below (B := w.heap.size) (fun k hk => by subst hk; have := HG1.out; simp at this; omega) (below_size HB.out)))
  clear ho2 hc
  go_wp2
  go_ret
  exact ⟨_, _, rfl, ⟨C_ofR HO2.out, (Kd.R_reads' HO2.out).2.1⟩, HB2.out⟩
end
end Go.Proofs.Ytalimpniimgheaa.Fn
namespace Go.Proofs.Ytalimpniimgheaa.Fn
open Go.RowKit Go.Proofs.YtalimpniimgheaaW.PrintWords Go.Proofs.YtalimpniimgheaaW.PrintLast Go.Proofs.YtalimpniimgheaaW.PrintMore
set_option linter.unusedVariables false
set_option linter.unusedSimpArgs false
attribute [local go_sem] max2_mx min2_mn max_two min_two
def jadd4T : Bool × List (List Nat × List Nat) := (true, [([], []), ([], []), ([1], [1]), ([2], [2]), ([3], [3]), ([], []), ([], []), ([5, 6], [5, 6]), ([4, 7], [4, 7]), ([0, 0, 1, 2, 3, 4, 5, 6, 7, 8], [0]), ([9, 0, 1, 2, 3, 4, 5, 6, 7, 8], [9]), ([10, 8, 8, 0, 1, 2, 3, 4, 5, 6, 7, 8], [8, 10])])
def jadd4B : List Nat := [0, 0, 2, 6, 14, 0, 0, 96, 254, 511, 1023, 2047]
theorem jadd4_tab : rtab .any (opsOf Try.f17 4) = jadd4T := by kernel_rfl
theorem jadd4_bits : waitsOk jadd4T.2 jadd4B = true := by kernel_rfl
theorem own_some {A : Option Addr} {n c k : Nat} (h : (Value.slice A n c).ownBlock = some k) : ∃ a, A = some a ∧ k = a.block := by
 cases A with
 | none => simp [Value.ownBlock] at h
 | some a => exact ⟨a, rfl, by simpa [Value.ownBlock] using h.symm⟩
section
variable {base g : Nat} {A : Option Addr} {c : Nat} {xs : List S65} {lost : Int} {E : Option Addr} {d : Nat} {es : List S65} {room : Nat}
set_option maxHeartbeats 8000000 in
set_option maxRecDepth 100000 in
theorem add_calls (w : World) (h : IsLog w base g A c xs room lost) (he : k65.C w E es.length es) (hr : room ≤ 65536) (hx : xs.length ≤ room) (hl : es.length ≤ 1000) (h0 : 0 ≤ lost) (h9 : lost ≤ 100000) (hd : es.length ≤ d) :
  Calls Try.prog 17 #[.pointer (some ⟨g, 0, none⟩), .slice E es.length d] w fun e w' => ∃ A' c', e = .returned (.int .i64 (min es.length (room - xs.length) : Nat)) ∧ IsLog w' base g A' c' (xs ++ es.take (min es.length (room - xs.length))) room (lost + (es.length - min es.length (room - xs.length) : Nat)) ∧ Chg (rowS g A) w w' ∧ (∀ k, rowS g A' k → rowS g A k ∨ w.heap.size ≤ k) := by
 have hu := Try.underlying105
 have hu2 := Try.underlying31
 have hu3 := Try.underlying65
 generalize hk : min es.length (room - xs.length) = kk
 have hmn : mn (es.length : Int) ((room : Int) - (xs.length : Int)) = (kk : Int) := by unfold mn; split <;> omega
 have hw1 : IntKind.i64.wrap ((room : Int) - (xs.length : Int)) = (room : Int) - (xs.length : Int) := by rw [i64_w]; unfold wrap64; omega
 have hw2 : IntKind.i64.wrap ((es.length : Int) - (kk : Int)) = (es.length : Int) - (kk : Int) := by rw [i64_w]; unfold wrap64; omega
 have hw3 : IntKind.i64.wrap (lost + ((es.length : Int) - (kk : Int))) = lost + ((es.length : Int) - (kk : Int)) := by rw [i64_w]; unfold wrap64; omega
 have BP := asd h.1
 have HO := asd h.2.2
 have HG := asd h.2.1
 have HR := asd he
 have HC := asd (Chg.refl (rowS g A) w)
 have KB := asd (show kk ≤ es.length by omega)
 have LB := asd (show xs.length ≤ 65536 ∧ kk ≤ 1000 by omega)
 have p0 : (0 ≤ (kk : Int)) = True := eq_true (by omega)
 have p1 : ((kk : Int) ≤ (d : Int)) = True := eq_true (by omega)
 have hx0 := (blk_cell BP.out 0).trans rfl
 have hx1 := (blk_cell BP.out 1).trans rfl
 have hx2 := (blk_cell BP.out 2).trans rfl
 clear h he hk hl hr hx
 go_enter Try.func17, Try.ntmps17
 go_wp2
 go_quiet (fail)
 go_wp2
 have BP3 := asd (blk_drewN BP.out nq)
 have HO3 := asd (Kd.R_drewN HO.out nq)
 have HR3 := asd (Kd.C_below HR.out (below_drewN1 _ nq))
 have HC3 := asd (HC.out.drewN nq)
 have HSZ : Aside0 (w.heap.size ≤ (w.drewN nq).heap.size) := ⟨by simp⟩
 have HL : Aside0 (base ≤ (w.drewN nq).heap.size) := ⟨by have := blk_lt BP3.out; have := HG.out; omega⟩
 clear BP HO HR HC hx0 hx1 hx2
 generalize w.drewN nq = w3 at BP3 HO3 HR3 HC3 HL HSZ ⊢
 have BP := BP3
 have HO := HO3
 have HR := HR3
 have HC := HC3
 clear BP3 HO3 HR3 HC3
 refine start_ (n := 12) (S := fun w' => w'.cell? ⟨g, 0, none⟩ = some (.slice A xs.length c)) (ds := [11]) #[false, false, false, false, false, false, false, false, false, false, false, false] (by kernel_rfl) rfl rfl ((blk_cell BP.out 0).trans rfl) (fun hHeld => ?_); refine with_tabW jadd4_tab jadd4_bits (fun HT_ HW_ => ?_)
 have BP2 := asd (blk_drew BP.out)
 have HO2 := asd (Kd.R_drew HO.out)
 have HR2 := asd (Kd.C_below HR.out (below_drew1 (Below.refl _ _)))
 have HC2 := asd (HC.out.drew)
 have HL2 : Aside0 (base ≤ w3.drew.heap.size) := ⟨HL.out⟩
 have HSZ2 : Aside0 (w.heap.size ≤ w3.drew.heap.size) := ⟨HSZ.out⟩
 clear BP HO HR HC HL HSZ
 have HL := HL2
 have HSZ := HSZ2
 clear HL2 HSZ2
 generalize w3.drew = w25 at BP2 HO2 HR2 HC2 HL HSZ hHeld ⊢
 refine pure_ (i := 0) (N := (some 21)) (v := ?_) (a' := ?_) #[true, false, false, false, false, false, false, false, false, false, false, false] rfl rfl (any_of HT_.out (by kernel_rfl)) (fun _ _ _ h => h) (Or.inl ⟨by rfl, ?_⟩) ?_ ?_
 rotate_left
 ·intro w'
  go_simp
  with_reducible rfl
 rotate_left
 ·simp only [Act.put, sB, i64_w, i32_w]
  rfl
 refine pure_ (i := 1) (N := (some 22)) (v := ?_) (a' := ?_) #[true, true, false, false, false, false, false, false, false, false, false, false] rfl rfl (any_of HT_.out (by kernel_rfl)) (fun _ _ _ h => h) (Or.inl ⟨by rfl, ?_⟩) ?_ ?_
 rotate_left
 ·intro w'
  go_simp
  with_reducible rfl
 rotate_left
 ·simp only [Act.put, sB, i64_w, i32_w]
  rfl
 refine pure_ (i := 2) (N := (some 23)) (v := ?_) (a' := ?_) #[true, true, true, false, false, false, false, false, false, false, false, false] rfl rfl (any_of HT_.out (by kernel_rfl)) (fun _ _ _ h => h) (Or.inl ⟨by rfl, ?_⟩) ?_ ?_
 rotate_left
 ·intro w'
  go_simp
  with_reducible rfl
 rotate_left
 ·simp only [Act.put, sB, i64_w, i32_w]
  rfl
 refine pure_ (i := 3) (N := (some 24)) (v := ?_) (a' := ?_) #[true, true, true, true, false, false, false, false, false, false, false, false] rfl rfl (any_of HT_.out (by kernel_rfl)) (fun _ _ _ h => h) (Or.inl ⟨by rfl, ?_⟩) ?_ ?_
 rotate_left
 ·intro w'
  go_simp
  with_reducible rfl
 rotate_left
 ·simp only [Act.put, sB, i64_w, i32_w]
  rfl
 refine take_ (i := 4) (N := (some 25)) (v := ?_) (a' := ?_) #[true, true, true, true, true, false, false, false, false, false, false, false] rfl rfl (take_ofW HT_.out HW_.out (by kernel_rfl)) (fun _ _ _ h => h) (Or.inl ⟨by rfl, ?_⟩) hHeld ?_ ?_
 rotate_left
 ·rintro w' s0
  go_simp
  with_reducible rfl
 rotate_left
 ·simp only [Act.put, sB, i64_w, i32_w]
  rfl
 refine pure_ (i := 5) (N := (some 26)) (v := ?_) (a' := ?_) #[true, true, true, true, true, true, false, false, false, false, false, false] rfl rfl (any_of HT_.out (by kernel_rfl)) (fun _ _ _ h => h) (Or.inl ⟨by rfl, ?_⟩) ?_ ?_
 rotate_left
 ·intro w'
  go_simp
  with_reducible rfl
 rotate_left
 ·simp only [Act.put, sB, i64_w, i32_w]
  rfl
 refine pure_ (i := 6) (N := (some 27)) (v := ?_) (a' := ?_) #[true, true, true, true, true, true, true, false, false, false, false, false] rfl rfl (any_of HT_.out (by kernel_rfl)) (fun _ _ _ h => h) (Or.inl ⟨by rfl, ?_⟩) ?_ ?_
 rotate_left
 ·intro w'
  go_simp
  with_reducible rfl
 rotate_left
 ·simp only [Act.put, sB, i64_w, i32_w]
  rfl
 refine pure_ (i := 7) (N := (some 28)) (v := ?_) (a' := ?_) #[true, true, true, true, true, true, true, true, false, false, false, false] rfl rfl (any_of HT_.out (by kernel_rfl)) (fun _ _ _ h => h) (Or.inl ⟨by rfl, ?_⟩) ?_ ?_
 rotate_left
 ·intro w'
  go_simp
  with_reducible rfl
 rotate_left
 ·simp only [Act.put, sB, i64_w, i32_w]
  rfl
 refine one_ (i := 8) (N := (some 29)) #[true, true, true, true, true, true, true, true, true, false, false, false] rfl rfl (one_of HT_.out (by kernel_rfl)) (by decide) (fun K hK => ?_)
 refine Kd.R_append_rows_step k65 (Rr := k65.K w25) (w0 := w25) base (by rfl) (.tmp 25) (.tmp 28) 31 65 (.agg #[.int .i64 0, .int .i64 0, .int .i64 0, .int .i64 0]) 32 rfl Try.underlying31 info65 rfl (by decide) (by omega) (.slice A xs.length c) xs (es.take kk) E kk d (fun k => k ≠ g) (fun _ => False) rfl rfl HO2.out (by have h := Kd.C_take HR2.out KB.out; rw [List.length_take, Nat.min_eq_left KB.out] at h; exact h) (fun x cs h => by rw [k65_open h]; exact k65_mkM _ _ _ _) (fun _ hk => hk.elim) (fun k hk => by have := blk_lt BP2.out; omega) (Below.refl _ _) HL.out (by have := LB.out; omega) ?_
 intro v9 w9 ho hb hgr hat
 have BP9 := asd (blk_grown BP2.out hgr (Kd.R_ne HO2.out BP2.out (by decide)))
 have HC9 := asd (HC2.out.grown hgr (fun k hk => .inl (.inr (own_some hk))))
 have HO9 := asd ho
 have AT9 := asd hat
 clear ho hb hgr hat BP2 HO2 HR2 HC2
 obtain ⟨A9, c9, rfl⟩ := Kd.R_slice HO9.out
 generalize hL : (xs ++ List.take kk es).length = L at HO9 ⊢
 have HLL := asd hL
 clear hL
 refine hK.out _ _ ((blk_cell BP9.out 0).trans rfl) (fun hHeld => ?_)
 clear hK K
 refine norm_ (a' := ?_) ?_ ?_
 rotate_left
 ·show Act.put _ (some 29) _ = _
  simp only [Act.put, sB, i64_w, i32_w]
  rfl
 refine pure_ (i := 9) (N := (some 30)) (v := ?_) (a' := ?_) #[true, true, true, true, true, true, true, true, true, true, false, false] rfl rfl (any_of HT_.out (by kernel_rfl)) (fun _ _ _ h => h) (Or.inl ⟨by rfl, ?_⟩) ?_ ?_
 rotate_left
 ·intro w'
  go_simp
  with_reducible rfl
 rotate_left
 ·simp only [Act.put, sB, i64_w, i32_w]
  rfl
 refine pure_ (i := 10) (N := (some 31)) (v := ?_) (a' := ?_) #[true, true, true, true, true, true, true, true, true, true, true, false] rfl rfl (any_of HT_.out (by kernel_rfl)) (fun _ _ _ h => h) (Or.inl ⟨by rfl, ?_⟩) ?_ ?_
 rotate_left
 ·intro w'
  go_simp
  with_reducible rfl
 rotate_left
 ·simp only [Act.put, sB, i64_w, i32_w]
  rfl
 refine last_ (i := 11) (N := none) #[true, true, true, true, true, true, true, true, true, true, true, true] rfl rfl (one_of HT_.out (by kernel_rfl)) (by decide) (fun K hK => ?_)
 have hs28 := (blk_cell BP9.out 0).trans rfl
 have hfs28 := blk_frozen BP9.out 0
 refine skip_ (w1 := ?_) (by rfl) rfl ?_ ?_
 rotate_left
 ·go_simp
  rfl
 refine hK.out _ _ ?_
 clear hK K
 refine done_ (done_of HT_.out (by kernel_rfl)) ?_
 have BPa := asd (blk_set BP9.out 0 (.slice A9 L c9))
 have HOa := asd (Kd.R_far HO9.out (p := ⟨g, 0, none⟩) (fun k hk => hk) (.slice A9 L c9))
 have HCa := asd (HC9.out.set_ (p := ⟨g, 0, none⟩) (.inl (.inl rfl)) (.slice A9 L c9))
 clear BP9 HO9 HC9 hs28 hfs28 hHeld
 generalize w9.setCell ⟨g, 0, none⟩ (.slice A9 L c9) = wa at BPa HOa HCa ⊢
 have hy2 := (blk_cell BPa.out 2).trans rfl
 have hf2 := blk_frozen BPa.out 2
 go_wp2
 go_ret
 refine ⟨A9, c9, rfl, ⟨?_, HG.out, by rw [HLL.out]; exact Kd.R_far HOa.out (p := ⟨g, 2, none⟩) (fun k hk => hk) _⟩, HCa.out.set_ (p := ⟨g, 2, none⟩) (.inl (.inl rfl)) _, ?_⟩
 ·have h2 := blk_set BPa.out 2 (.int .i64 (lost + ((es.length : Int) - (kk : Int))))
  rw [HLL.out, show ((es.length - kk : Nat) : Int) = (es.length : Int) - (kk : Int) by have := KB.out; omega]
  exact h2
 ·rintro k (rfl | ⟨a, rfl, rfl⟩)
  ·exact .inl (.inl rfl)
  ·rcases AT9.out with h1 | ⟨b, h1, h2⟩
   ·refine .inl (.inr ?_)
    exact own_some (h1.symm.trans (by simp [Value.ownBlock]))
   ·have h3 : a.block = b := by simpa [Value.ownBlock] using h1
    exact .inr (by rw [h3]; exact Nat.le_trans HSZ.out h2)
end
end Go.Proofs.Ytalimpniimgheaa.Fn
namespace Go.Proofs.Ytalimpniimgheaa.Fn
open Go.RowKit Go.Proofs.YtalimpniimgheaaW.PrintWords Go.Proofs.YtalimpniimgheaaW.PrintLast Go.Proofs.YtalimpniimgheaaW.PrintMore
set_option linter.unusedVariables false
set_option linter.unusedSimpArgs false
attribute [local go_sem] max2_mx min2_mn max_two min_two
def radd6T : Bool × List (List Nat × List Nat) := (true, [([], []), ([], []), ([1], [1]), ([2], [2]), ([3], [3]), ([], []), ([], []), ([5, 6], [5, 6]), ([7], [7]), ([8], [8]), ([4, 9], [4, 9]), ([0, 0, 1, 2, 3, 4, 5, 6, 7, 8, 9, 10], [0]), ([11, 0, 1, 2, 3, 4, 5, 6, 7, 8, 9, 10], [11]), ([12, 10, 10, 0, 1, 2, 3, 4, 5, 6, 7, 8, 9, 10], [10, 12])])
def radd6B : List Nat := [0, 0, 2, 6, 14, 0, 0, 96, 224, 480, 1022, 2047, 4095, 8191]
theorem radd6_tab : rtab .any (opsOf Try.f19 6) = radd6T := by kernel_rfl
theorem radd6_bits : waitsOk radd6T.2 radd6B = true := by kernel_rfl
theorem cells64 {w : World} {ad : Addr} {n : Nat} {xs : List S64} (h : Kd.C k64 w (some ad) n xs) (i : Int) (h0 : 0 ≤ i) (h1 : i < n) : w.cell? (ad.add (i.toNat * 4)) = some (.int .i64 (rd_T64 xs i).f0) ∧ w.cell? ⟨(ad.add (i.toNat * 4)).block, (ad.add (i.toNat * 4)).off + 1, none⟩ = some (.int .i64 (rd_T64 xs i).f1) ∧ w.cell? ⟨(ad.add (i.toNat * 4)).block, (ad.add (i.toNat * 4)).off + 2, none⟩ = some (.int .i64 (rd_T64 xs i).f2) ∧ w.cell? ⟨(ad.add (i.toNat * 4)).block, (ad.add (i.toNat * 4)).off + 3, none⟩ = some (.int .i64 (rd_T64 xs i).f3) := by
 obtain ⟨ad', e, r⟩ := at_T64 h i h0 h1
 obtain rfl := Option.some.inj e
 exact r
section
variable {g : Nat} {A : Option Addr} {c : Nat} {ys : List S64} {lost : Int} {E : Option Addr} {d : Nat} {es : List S64} {room : Nat}
set_option maxHeartbeats 8000000 in
set_option maxRecDepth 100000 in
theorem radd_calls (w0 w : World) (h : IsRef w w0.heap.size g A c ys room lost) (hB : Below w0.heap.size w0 w) (he : k64.C w0 E es.length es) (hr : room ≤ 65536) (hx : ys.length ≤ room) (hl : es.length ≤ 1000) (h0 : 0 ≤ lost) (h9 : lost ≤ 100000) :
  Calls Try.prog 19 #[.pointer (some ⟨g, 0, none⟩), .slice E es.length d] w fun e w' => ∃ A' c', e = .returned (.int .i64 (min es.length (room - ys.length) : Nat)) ∧ IsRef w' w0.heap.size g A' c' (ys ++ es.take (min es.length (room - ys.length))) room (lost + (es.length - min es.length (room - ys.length) : Nat)) ∧ Chg (rowS g A) w w' ∧ (∀ k, rowS g A' k → rowS g A k ∨ w.heap.size ≤ k) := by
 have hu := Try.underlying36
 have hu3 := Try.underlying64
 have HI0 := asd h
 have HE := asd he
 have HB0 := asd hB
 have HR := asd (show room ≤ 65536 ∧ ys.length ≤ room ∧ es.length ≤ 1000 by omega)
 have LOW := asd h.low
 have LB := asd (below_size hB)
 have HG := asd h.2.1
 have hl' : (es.length : Int) ≤ 1000 := by omega
 clear h he hB hr hx hl
 go_enter Try.func19, Try.ntmps19
 go_wp2
 go_loopw [5, 6] (fun v5 v6 wr => ∃ (i : Nat) (A' : Option Addr) (c' : Nat) (zs : List S64), v5 = .int .i64 (min i (room - ys.length) : Nat) ∧ v6 = .int .i64 i ∧ Aside0 (i ≤ es.length ∧ zs = ys ++ es.take (min i (room - ys.length))) ∧ Aside0 (IsRef wr w0.heap.size g A' c' zs room (lost + (i - min i (room - ys.length) : Nat))) ∧ Aside0 (Chg (rowS g A) w wr) ∧ Aside0 (∀ k, rowS g A' k → rowS g A k ∨ w.heap.size ≤ k)) (fun _ v _ => es.length - (intOf v).toNat)
 case atStart => exact ⟨0, A, c, ys, by simp, rfl, ⟨by omega, by simp⟩, ⟨by simpa using HI0.out⟩, ⟨Chg.refl _ _⟩, ⟨fun _ h => .inl h⟩⟩
 case round =>
  obtain ⟨i, A', c', zs, rfl, rfl, HX, HI, HC, HS⟩ := hrel
  have BP := asd HI.out.1
  have HO := asd HI.out.2.2
  have HB := asd (HB0.out.trans (HC.out.to_below LOW.out LB.out))
  by_cases hlt : (i : Int) < (es.length : Int)
  ·generalize hxi : (i : Int) = x at hlt ⊢
   have HX0 : 0 ≤ x := by omega
   have h99 : x ≤ 1000 := by omega
   have p1 : (0 ≤ x) = True := eq_true HX0
   have q1 : (x < (es.length : Int)) = True := eq_true hlt
   have hin : i < es.length := by omega
   have hzl : zs.length = ys.length + min i (room - ys.length) := by have h1 := HX.out; rw [h1.2, List.length_append, List.length_take]; omega
   obtain ⟨ad, rfl, y0, y1, y2, y3⟩ := at_T64 (Kd.C_below HE.out HB.out) x HX0 hlt
   have CL := asd (cells64 (Kd.C_below HE.out HB.out) x HX0 hlt)
   have hx0 := (blk_cell BP.out 0).trans rfl
   have hx1 := (blk_cell BP.out 1).trans rfl
   have hx2 := (blk_cell BP.out 2).trans rfl
   clear y0 y1 y2 y3
   by_cases hm : zs.length < room
   ·have dm : decide ((zs.length : Int) < (room : Int)) = true := decide_eq_true (by omega)
    have dn : decide (zs.length < room) = true := decide_eq_true hm
    have MX : Aside0 (min (i + 1) (room - ys.length) = min i (room - ys.length) + 1) := ⟨by omega⟩
    have LZ : Aside0 (zs.length ≤ 65536) := ⟨by have := HR.out; omega⟩
    have LS : Aside0 (lost + (i - min i (room - ys.length) : Nat) = lost + (i + 1 - min (i + 1) (room - ys.length) : Nat)) := ⟨by congr 2; omega⟩
    have ZN : Aside0 (zs ++ [(rd_T64 es x)] = ys ++ es.take (min (i + 1) (room - ys.length))) := ⟨by
     have e1 : min i (room - ys.length) = i := by omega
     have e2 : min (i + 1) (room - ys.length) = i + 1 := by omega
     have h1 := HX.out.2
     rw [e1] at h1
     rw [e2, h1, List.append_assoc]
     congr 1
     have h2 := take_one es z64 x HX0 hlt
     rw [show x.toNat = i by omega, show (x + 1).toNat = i + 1 by omega] at h2
     rw [← h2]
     unfold rd_T64
     rw [show x.toNat = i by omega]⟩
    clear hm HX HI hzl
    go_wp2
    go_quiet (fail)
    go_wp2
    have BP3 := asd (blk_drewN BP.out nq)
    have HO3 := asd (Kd.R_drewN HO.out nq)
    have HB3 := asd (pw_below_drewN HB.out nq)
    have HC3 := asd (HC.out.drewN nq)
    have CL3 := asd (cells64 (Kd.C_below HE.out HB3.out) x HX0 hlt)
    clear BP HO HB HC CL hx0 hx1 hx2
    generalize wr.drewN nq = w3 at BP3 HO3 HB3 HC3 CL3 ⊢
    have BP := BP3
    have HO := HO3
    have HB := HB3
    have HC := HC3
    have CL := CL3
    clear BP3 HO3 HB3 HC3 CL3
    have hx0 := (blk_cell BP.out 0).trans rfl
    have hx1 := (blk_cell BP.out 1).trans rfl
    have hx2 := (blk_cell BP.out 2).trans rfl
    refine start_ (n := 14) (S := fun w' => w'.cell? ⟨g, 1, none⟩ = some (.slice A' zs.length c') ∧ w'.cell? (ad.add (x.toNat * 4)) = some (.int .i64 (rd_T64 es x).f0) ∧ w'.cell? ⟨(ad.add (x.toNat * 4)).block, (ad.add (x.toNat * 4)).off + 1, none⟩ = some (.int .i64 (rd_T64 es x).f1) ∧ w'.cell? ⟨(ad.add (x.toNat * 4)).block, (ad.add (x.toNat * 4)).off + 2, none⟩ = some (.int .i64 (rd_T64 es x).f2) ∧ w'.cell? ⟨(ad.add (x.toNat * 4)).block, (ad.add (x.toNat * 4)).off + 3, none⟩ = some (.int .i64 (rd_T64 es x).f3)) (ds := [13]) #[false, false, false, false, false, false, false, false, false, false, false, false, false, false] (by kernel_rfl) rfl rfl ⟨(blk_cell BP.out 1).trans rfl, CL.out.1, CL.out.2.1, CL.out.2.2.1, CL.out.2.2.2⟩ (fun hHeld => ?_); refine with_tabW radd6_tab radd6_bits (fun HT_ HW_ => ?_)
    have BP6 := asd (blk_drew BP.out)
    have HO6 := asd (Kd.R_drew HO.out)
    have HB6 := asd (below_drew HB.out)
    have HC6 := asd (HC.out.drew)
    clear BP HO HB HC CL hx0 hx1 hx2
    generalize w3.drew = w25 at BP6 HO6 HB6 HC6 hHeld ⊢
    refine pure_ (i := 0) (N := (some 23)) (v := ?_) (a' := ?_) #[true, false, false, false, false, false, false, false, false, false, false, false, false, false] rfl rfl (any_of HT_.out (by kernel_rfl)) (fun _ _ _ h => h) (Or.inl ⟨by rfl, ?_⟩) ?_ ?_
    rotate_left
    ·intro w'
     go_simp
     with_reducible rfl
    rotate_left
    ·simp only [Act.put, sB, i64_w, i32_w]
     rfl
    refine pure_ (i := 1) (N := (some 24)) (v := ?_) (a' := ?_) #[true, true, false, false, false, false, false, false, false, false, false, false, false, false] rfl rfl (any_of HT_.out (by kernel_rfl)) (fun _ _ _ h => h) (Or.inl ⟨by rfl, ?_⟩) ?_ ?_
    rotate_left
    ·intro w'
     go_simp
     with_reducible rfl
    rotate_left
    ·simp only [Act.put, sB, i64_w, i32_w]
     rfl
    refine pure_ (i := 2) (N := (some 25)) (v := ?_) (a' := ?_) #[true, true, true, false, false, false, false, false, false, false, false, false, false, false] rfl rfl (any_of HT_.out (by kernel_rfl)) (fun _ _ _ h => h) (Or.inl ⟨by rfl, ?_⟩) ?_ ?_
    rotate_left
    ·intro w'
     go_simp
     with_reducible rfl
    rotate_left
    ·simp only [Act.put, sB, i64_w, i32_w]
     rfl
    refine pure_ (i := 3) (N := (some 26)) (v := ?_) (a' := ?_) #[true, true, true, true, false, false, false, false, false, false, false, false, false, false] rfl rfl (any_of HT_.out (by kernel_rfl)) (fun _ _ _ h => h) (Or.inl ⟨by rfl, ?_⟩) ?_ ?_
    rotate_left
    ·intro w'
     go_simp
     with_reducible rfl
    rotate_left
    ·simp only [Act.put, sB, i64_w, i32_w]
     rfl
    refine take_ (i := 4) (N := (some 27)) (v := ?_) (a' := ?_) #[true, true, true, true, true, false, false, false, false, false, false, false, false, false] rfl rfl (take_ofW HT_.out HW_.out (by kernel_rfl)) (fun _ _ _ h => h) (Or.inl ⟨by rfl, ?_⟩) hHeld ?_ ?_
    rotate_left
    ·rintro w' ⟨s0, s1, s2, s3, s4⟩
     go_simp
     with_reducible rfl
    rotate_left
    ·simp only [Act.put, sB, i64_w, i32_w]
     rfl
    refine pure_ (i := 5) (N := (some 28)) (v := ?_) (a' := ?_) #[true, true, true, true, true, true, false, false, false, false, false, false, false, false] rfl rfl (any_of HT_.out (by kernel_rfl)) (fun _ _ _ h => h) (Or.inl ⟨by rfl, ?_⟩) ?_ ?_
    rotate_left
    ·intro w'
     go_simp
     with_reducible rfl
    rotate_left
    ·simp only [Act.put, sB, i64_w, i32_w]
     rfl
    refine pure_ (i := 6) (N := (some 29)) (v := ?_) (a' := ?_) #[true, true, true, true, true, true, true, false, false, false, false, false, false, false] rfl rfl (any_of HT_.out (by kernel_rfl)) (fun _ _ _ h => h) (Or.inl ⟨by rfl, ?_⟩) ?_ ?_
    rotate_left
    ·intro w'
     go_simp
     with_reducible rfl
    rotate_left
    ·simp only [Act.put, sB, i64_w, i32_w]
     rfl
    refine pure_ (i := 7) (N := (some 30)) (v := ?_) (a' := ?_) #[true, true, true, true, true, true, true, true, false, false, false, false, false, false] rfl rfl (any_of HT_.out (by kernel_rfl)) (fun _ _ _ h => h) (Or.inl ⟨by rfl, ?_⟩) ?_ ?_
    rotate_left
    ·intro w'
     go_simp
     with_reducible rfl
    rotate_left
    ·simp only [Act.put, sB, i64_w, i32_w]
     rfl
    refine take_ (i := 8) (N := (some 31)) (v := ?_) (a' := ?_) #[true, true, true, true, true, true, true, true, true, false, false, false, false, false] rfl rfl (take_ofW HT_.out HW_.out (by kernel_rfl)) (fun _ _ _ h => h) (Or.inl ⟨by rfl, ?_⟩) hHeld ?_ ?_
    rotate_left
    ·rintro w' ⟨s0, s1, s2, s3, s4⟩
     go_simp
     with_reducible rfl
    rotate_left
    ·simp only [Act.put, sB, i64_w, i32_w]
     rfl
    have BP7 := asd (blk_alloc BP6.out (.cells [.int .i64 (rd_T64 es x).f0, .int .i64 (rd_T64 es x).f1, .int .i64 (rd_T64 es x).f2, .int .i64 (rd_T64 es x).f3].toArray 64))
    have CL7 := asd (cells64 (Kd.C_below HE.out (below_alloc HB6.out (.cells [.int .i64 (rd_T64 es x).f0, .int .i64 (rd_T64 es x).f1, .int .i64 (rd_T64 es x).f2, .int .i64 (rd_T64 es x).f3].toArray 64))) x HX0 hlt)
    refine one_ (i := 9) (N := (some 32)) #[true, true, true, true, true, true, true, true, true, true, false, false, false, false] rfl rfl (one_of HT_.out (by kernel_rfl)) (by decide) (fun K hK => ?_)
    refine value_ (w1 := ?_) (v := ?_) (by rfl) rfl ?_ ?_
    rotate_left 2
    ·go_simp
     constructor
     ·rfl
     ·rfl
    refine hK.out _ _ ⟨(blk_cell BP7.out 1).trans rfl, CL7.out.1, CL7.out.2.1, CL7.out.2.2.1, CL7.out.2.2.2⟩ (fun hHeld => ?_)
    clear hK K
    refine norm_ (a' := ?_) ?_ ?_
    rotate_left
    ·show Act.put _ (some 32) _ = _
     simp only [Act.put, sB, i64_w, i32_w]
     rfl
    refine one_ (i := 10) (N := (some 33)) #[true, true, true, true, true, true, true, true, true, true, true, false, false, false] rfl rfl (one_of HT_.out (by kernel_rfl)) (by decide) (fun K hK => ?_)
    refine Kd.R_append_step k64 (w0 := w0) w0.heap.size (by rfl) (.tmp 27) (.tmp 32) 29 64 (.agg #[.int .i64 0, .int .i64 0, .int .i64 0, .int .i64 0]) 32 rfl Try.underlying29 info64 rfl (by decide) (by omega) (.slice A' zs.length c') zs (rd_T64 es x) [.int .i64 (rd_T64 es x).f0, .int .i64 (rd_T64 es x).f1, .int .i64 (rd_T64 es x).f2, .int .i64 (rd_T64 es x).f3] (fun k => k ≠ g) (fun _ => False) rfl rfl (k64_mkM _ _ _ _) (fun _ hk => hk.elim) (fun k hk => by have := blk_lt BP6.out; omega) HO6.out HB6.out (below_size HB6.out) (by have := LZ.out; omega) ?_
    intro v9 w9 ho hb hgr hat
    have BP9 := asd (blk_grown BP6.out hgr (Kd.R_ne HO6.out BP6.out (by decide)))
    have HB9 := asd hb
    have HC9 := asd (HC6.out.grown hgr (fun k hk => HS.out k (.inr (own_some hk))))
    have HO9 := asd ho
    have AT9 := asd hat
    have CL9 := asd (cells64 (Kd.C_below HE.out hb) x HX0 hlt)
    have SZ9 := asd HC6.out.size
    clear ho hb hgr hat BP6 HB6 HO6 HC6 BP7 CL7
    obtain ⟨A9, c9, rfl⟩ := Kd.R_slice HO9.out
    generalize hL : (zs ++ [(rd_T64 es x)]).length = L at HO9 ⊢
    have HLL := asd hL
    clear hL
    refine hK.out _ _ ⟨(blk_cell BP9.out 1).trans rfl, CL9.out.1, CL9.out.2.1, CL9.out.2.2.1, CL9.out.2.2.2⟩ (fun hHeld => ?_)
    clear hK K
    refine norm_ (a' := ?_) ?_ ?_
    rotate_left
    ·show Act.put _ (some 33) _ = _
     simp only [Act.put, sB, i64_w, i32_w]
     rfl
    refine pure_ (i := 11) (N := (some 34)) (v := ?_) (a' := ?_) #[true, true, true, true, true, true, true, true, true, true, true, true, false, false] rfl rfl (any_of HT_.out (by kernel_rfl)) (fun _ _ _ h => h) (Or.inl ⟨by rfl, ?_⟩) ?_ ?_
    rotate_left
    ·intro w'
     go_simp
     with_reducible rfl
    rotate_left
    ·simp only [Act.put, sB, i64_w, i32_w]
     rfl
    refine pure_ (i := 12) (N := (some 35)) (v := ?_) (a' := ?_) #[true, true, true, true, true, true, true, true, true, true, true, true, true, false] rfl rfl (any_of HT_.out (by kernel_rfl)) (fun _ _ _ h => h) (Or.inl ⟨by rfl, ?_⟩) ?_ ?_
    rotate_left
    ·intro w'
     go_simp
     with_reducible rfl
    rotate_left
    ·simp only [Act.put, sB, i64_w, i32_w]
     rfl
    refine last_ (i := 13) (N := none) #[true, true, true, true, true, true, true, true, true, true, true, true, true, true] rfl rfl (one_of HT_.out (by kernel_rfl)) (by decide) (fun K hK => ?_)
    have hs28 := (blk_cell BP9.out 1).trans rfl
    have hfs28 := blk_frozen BP9.out 1
    refine skip_ (w1 := ?_) (by rfl) rfl ?_ ?_
    rotate_left
    ·go_simp
     rfl
    refine hK.out _ _ ?_
    clear hK K
    refine done_ (done_of HT_.out (by kernel_rfl)) ?_
    have BPa := asd (blk_set BP9.out 1 (.slice A9 L c9))
    have HOa := asd (Kd.R_far HO9.out (p := ⟨g, 1, none⟩) (fun k hk => hk) (.slice A9 L c9))
    have HCa := asd (HC9.out.set_ (p := ⟨g, 1, none⟩) (.inl (.inl rfl)) (.slice A9 L c9))
    clear BP9 HO9 HB9 HC9 CL9 hs28 hfs28 hHeld
    generalize w9.setCell ⟨g, 1, none⟩ (.slice A9 L c9) = wa at BPa HOa HCa ⊢
    go_wp2
    go_roundw
    case rel =>
     refine ⟨i + 1, A9, c9, zs ++ [(rd_T64 es x)], by rw [MX.out]; go_num, by go_num, ⟨by omega, ZN.out⟩, ⟨⟨by rw [HLL.out, ← LS.out]; exact BPa.out, HG.out, by rw [HLL.out]; exact HOa.out⟩⟩, HCa, ⟨?_⟩⟩
     rintro k (rfl | ⟨a, rfl, rfl⟩)
     ·exact .inl (.inl rfl)
     ·rcases AT9.out with h1 | ⟨b, h1, h2⟩
      ·exact HS.out _ (.inr (own_some (h1.symm.trans (by simp [Value.ownBlock]))))
      ·have h3 : a.block = b := by simpa [Value.ownBlock] using h1
       exact .inr (by rw [h3]; exact Nat.le_trans SZ9.out h2)
    case measure => simp [intOf]; omega
   ·have dm : decide ((zs.length : Int) < (room : Int)) = false := decide_eq_false (by omega)
    have dn : decide (zs.length < room) = false := decide_eq_false hm
    have MX : Aside0 (min (i + 1) (room - ys.length) = min i (room - ys.length)) := ⟨by omega⟩
    have LS : Aside0 (lost + (i - min i (room - ys.length) : Nat) + 1 = lost + (i + 1 - min (i + 1) (room - ys.length) : Nat)) := ⟨by omega⟩
    have ZN := asd HX.out.2
    have l0 : 0 ≤ lost + (i - min i (room - ys.length) : Nat) := by omega
    have l9 : lost + (i - min i (room - ys.length) : Nat) ≤ 200000 := by omega
    generalize lost + ((i - min i (room - ys.length) : Nat) : Int) = ll at BP LS l0 l9 hx2
    clear hm HX HI hzl
    go_wp2
    go_quiet (fail)
    have BP3 := asd (blk_drewN BP.out nq)
    have HO3 := asd (Kd.R_drewN HO.out nq)
    have HC3 := asd (HC.out.drewN nq)
    clear BP HO HB HC CL hx0 hx1 hx2
    generalize wr.drewN nq = w3 at BP3 HO3 HC3 ⊢
    have hx2 := (blk_cell BP3.out 2).trans rfl
    have hf2 := blk_frozen BP3.out 2
    go_wp2
    go_roundw
    case rel =>
     refine ⟨i + 1, A', c', zs, by rw [MX.out], by go_num, ⟨by omega, by rw [MX.out]; exact ZN.out⟩, ⟨⟨?_, HG.out, Kd.R_far HO3.out (p := ⟨g, 2, none⟩) (fun k hk => hk) _⟩⟩, ⟨HC3.out.set_ (p := ⟨g, 2, none⟩) (.inl (.inl rfl)) _⟩, HS⟩
     have h2 := blk_set BP3.out 2 (.int .i64 (ll + 1))
     rw [← LS.out]
     exact h2
    case measure => simp [intOf]; omega
  ·have hq : decide ((i : Int) < (es.length : Int)) = false := decide_eq_false hlt
   have hq2 : decide (i < es.length) = false := decide_eq_false (by omega)
   have e : i = es.length := by have := HX.out.1; omega
   subst e
   have ZN := asd HX.out.2
   clear hlt HX BP HO HB
   go_wp2
   go_ret
   exact ⟨A', c', rfl, by rw [← ZN.out]; exact HI.out, HC.out, HS.out⟩
end
end Go.Proofs.Ytalimpniimgheaa.Fn
namespace Go.Proofs.Ytalimpniimgheaa.Fn
open Go.RowKit Go.Proofs.YtalimpniimgheaaW.PrintWords Go.Proofs.YtalimpniimgheaaW.PrintLast Go.Proofs.YtalimpniimgheaaW.PrintMore
set_option linter.unusedVariables false
set_option linter.unusedSimpArgs false
attribute [local go_sem] max2_mx min2_mn max_two min_two
theorem any_take {α : Type} (p : α → Bool) (l : List α) (i : Nat) (h : i < l.length) (z : α) : (l.take (i + 1)).any p = ((l.take i).any p || p (l.getD i z)) := by
 rw [List.take_succ_eq_append_getElem h, List.any_append]
 simp [List.getD, h]
def refKinds (ks : List Int) (ys : List S64) : List S64 := ys.filter (fun x => ks.any (fun y => decide (y = x.f1)))
section
variable {base g : Nat} {A : Option Addr} {c : Nat} {ys : List S64} {room lost : Int} {K : Option Addr} {d : Nat} {ks : List Int}
set_option maxHeartbeats 16000000 in
set_option maxRecDepth 100000 in
theorem rof_calls (w : World) (h : IsRef w base g A c ys room lost) (hl : ys.length ≤ 100000) (hk : (Kd.int .i64).C w K ks.length ks) (hkl : ks.length ≤ 100000) :
  Calls Try.prog 26 #[.pointer (some ⟨g, 0, none⟩), .slice K ks.length d] w fun e w' => ∃ v, e = .returned v ∧ k64.R 64 w' w.heap.size (fun _ => True) v (refKinds ks ys) ∧ Below w.heap.size w w' := by
 have hu := Try.underlying36
 have hu3 := Try.underlying64
 have BP0 := asd h.1
 have HC0 := asd (C_ofR h.2.2)
 have HK0 := asd hk
 have HL := asd (show ys.length ≤ 100000 ∧ ks.length ≤ 100000 from ⟨hl, hkl⟩)
 clear h hk hl hkl
 go_enter Try.func26, Try.ntmps26
 go_wp2
 go_loopw [5, 6] (fun v5 v6 wr => ∃ (i : Nat) (zs : List S64), v6 = .int .i64 i ∧ Aside0 (i ≤ ys.length ∧ zs = refKinds ks (ys.take i)) ∧ Aside0 (k64.R 64 wr w.heap.size (fun _ => True) v5 zs) ∧ Aside0 (Below w.heap.size w wr)) (fun _ v _ => ys.length - (intOf v).toNat)
 case atStart => exact ⟨0, [], rfl, ⟨by omega, rfl⟩, ⟨Kd.R_nil _ _ _ _ _⟩, ⟨Below.refl _ _⟩⟩
 case round =>
  obtain ⟨i, zs, rfl, HX, HR, HB⟩ := hrel
  obtain ⟨A', c', rfl⟩ := Kd.R_slice HR.out
  have h99 : (ys.length : Int) ≤ 100000 := by have := HL.out; omega
  have hx1 := (blk_cell (blk_below BP0.out HB.out) 1).trans rfl
  by_cases hlt : i < ys.length
  ·have hi : (i : Int) < (ys.length : Int) := by omega
   have q0 : ((i : Int) < (ys.length : Int)) = True := eq_true hi
   have q1 : decide ((i : Int) < (ys.length : Int)) = true := decide_eq_true hi
   have q2 : decide (i < ys.length) = true := decide_eq_true hlt
   have LZ : Aside0 (zs.length ≤ 100000) := ⟨by rw [HX.out.2]; unfold refKinds; refine Nat.le_trans (List.length_filter_le _ _) ?_; rw [List.length_take]; have := HL.out; omega⟩
   go_wp2
   obtain ⟨wo, rfl⟩ : ∃ wo : World, wo = wr := ⟨_, rfl⟩
   go_loopw [7, 8] (fun v7 v8 wq => ∃ k : Nat, v8 = .int .i64 k ∧ v7 = .bool ((ks.take k).any (fun y => decide (y = (ys.getD i z64).f1))) ∧ Aside0 (k ≤ ks.length) ∧ Aside0 (Below wo.heap.size wo wq)) (fun _ v _ => ks.length - (intOf v).toNat)
   case atStart => exact ⟨0, rfl, rfl, ⟨by omega⟩, ⟨Below.refl _ _⟩⟩
   case round =>
    obtain ⟨k, rfl, rfl, HKK, HBQ⟩ := hrel
    have HB2 := asd (below_step HB.out HBQ.out)
    have hy1 := (blk_cell (blk_below BP0.out HB2.out) 1).trans rfl
    have k99 : (ks.length : Int) ≤ 100000 := by have := HL.out; omega
    by_cases hkt : k < ks.length
    ·have hk1 : (k : Int) < (ks.length : Int) := by omega
     have r0 : ((k : Int) < (ks.length : Int)) = True := eq_true hk1
     have r1 : decide ((k : Int) < (ks.length : Int)) = true := decide_eq_true hk1
     have r2 : decide (k < ks.length) = true := decide_eq_true hkt
     have AT := asd (any_take (fun y => decide (y = (ys.getD i z64).f1)) ks k hkt 0)
     obtain ⟨ad, hae, y0, y1, y2, y3⟩ := at_T64 (Kd.C_below HC0.out HB2.out) (i : Int) (by omega) hi
     obtain rfl := hae
     obtain ⟨bd, hbe, z0⟩ := pol_int (Kd.C_below HK0.out HB2.out) (k : Int) (by omega) hk1
     obtain rfl := hbe
     unfold rd_T64 at y0 y1 y2 y3
     simp only [Int.toNat_natCast] at y0 y1 y2 y3 z0
     clear y0 y2 y3
     cases hin : (ks.take k).any (fun y => decide (y = (ys.getD i z64).f1)) with
     | true =>
      have NX : Aside0 ((ks.take (k + 1)).any (fun y => decide (y = (ys.getD i z64).f1)) = true) := ⟨by rw [AT.out, hin]; rfl⟩
      clear hin y1 z0
      go_wp2
      go_quiet (fail)
      go_wp2
      go_roundw
      case rel => exact ⟨k + 1, by go_num, by rw [NX.out], ⟨by omega⟩, ⟨pw_below_drewN HBQ.out _⟩⟩
      case measure => simp [intOf]; omega
     | false =>
      by_cases he : ks.getD k 0 = (ys.getD i z64).f1
      ·have NX : Aside0 ((ks.take (k + 1)).any (fun y => decide (y = (ys.getD i z64).f1)) = true) := ⟨by rw [AT.out, hin, decide_eq_true he]; rfl⟩
       have hb : (ks.getD k 0 == (ys.getD i z64).f1) = true := beq_iff_eq.2 he
       have hd : decide (ks.getD k 0 = (ys.getD i z64).f1) = true := decide_eq_true he
       generalize ks.getD k 0 = ka at z0 hb hd
       generalize (ys.getD i z64).f1 = kb at y1 hb hd NX ⊢
       clear hin he AT
       go_wp2
       go_quiet (fail)
       go_wp2
       go_roundw
       case rel => exact ⟨k + 1, by go_num, by rw [NX.out], ⟨by omega⟩, ⟨pw_below_drewN HBQ.out _⟩⟩
       case measure => simp [intOf]; omega
      ·have NX : Aside0 ((ks.take (k + 1)).any (fun y => decide (y = (ys.getD i z64).f1)) = false) := ⟨by rw [AT.out, hin, decide_eq_false he]; rfl⟩
       have hb : (ks.getD k 0 == (ys.getD i z64).f1) = false := beq_eq_false_iff_ne.2 he
       have hd : decide (ks.getD k 0 = (ys.getD i z64).f1) = false := decide_eq_false he
       generalize ks.getD k 0 = ka at z0 hb hd
       generalize (ys.getD i z64).f1 = kb at y1 hb hd NX ⊢
       clear hin he AT
       go_wp2
       go_quiet (fail)
       go_wp2
       go_roundw
       case rel => exact ⟨k + 1, by go_num, by rw [NX.out], ⟨by omega⟩, ⟨pw_below_drewN HBQ.out _⟩⟩
       case measure => simp [intOf]; omega
    ·have r1 : decide ((k : Int) < (ks.length : Int)) = false := decide_eq_false (by omega)
     have r2 : decide (k < ks.length) = false := decide_eq_false hkt
     have e : k = ks.length := by have := HKK.out; omega
     subst e
     rw [List.take_length]
     have HR2 := asd (Kd.R_below HR.out HBQ.out)
     clear hkt hx1
     cases hin : ks.any (fun y => decide (y = (ys.getD i z64).f1)) with
     | true =>
      have ZN : Aside0 (zs ++ [ys.getD i z64] = refKinds ks (ys.take (i + 1))) := ⟨by
       rw [HX.out.2]; unfold refKinds
       rw [List.take_succ_eq_append_getElem hlt, List.filter_append]
       rw [getD_lt ys z64 hlt] at hin ⊢
       simp [hin]⟩
      clear hin
      obtain ⟨ad, rfl, y0, y1, y2, y3⟩ := at_T64 (Kd.C_below HC0.out HB2.out) (i : Int) (by omega) hi
      unfold rd_T64 at y0 y1 y2 y3
      simp only [Int.toNat_natCast] at y0 y1 y2 y3
      generalize ys.getD i z64 = x at *
      go_wp2_with (first | (at_builtin; refine Kd.R_append k64 (w0 := w) w.heap.size rfl (.tmp 41) (.tmp 49) 29 64 (.agg #[.int .i64 0, .int .i64 0, .int .i64 0, .int .i64 0]) 32 rfl Try.underlying29 info64 rfl (by decide) (by omega) (.slice A' zs.length c') zs x [.int .i64 x.f0, .int .i64 x.f1, .int .i64 x.f2, .int .i64 x.f3] (fun _ => True) (fun _ => False) rfl rfl (k64_mkM _ _ _ _) (fun _ hk => hk.elim) (fun _ _ => trivial) HR2.out HB2.out (below_size HB2.out) (by have := LZ.out; omega) ?_; intro v1 w1 ho hb hg hat; have HR3 := asd ho; have HB3 := asd hb; clear ho hb hg hat))
      go_roundw
      case rel => exact ⟨i + 1, zs ++ [x], by go_num, ⟨by omega, ZN.out⟩, HR3, HB3⟩
      case measure => simp [intOf]; omega
     | false =>
      have ZN : Aside0 (zs = refKinds ks (ys.take (i + 1))) := ⟨by
       rw [HX.out.2]; unfold refKinds
       rw [List.take_succ_eq_append_getElem hlt, List.filter_append]
       rw [getD_lt ys z64 hlt] at hin
       simp [hin]⟩
      clear hin
      go_wp2
      go_roundw
      case rel => exact ⟨i + 1, zs, by go_num, ⟨by omega, ZN.out⟩, HR2, HB2⟩
      case measure => simp [intOf]; omega
  ·have q1 : decide ((i : Int) < (ys.length : Int)) = false := decide_eq_false (by omega)
   have q2 : decide (i < ys.length) = false := decide_eq_false hlt
   have e : zs = refKinds ks ys := by have h1 := HX.out; rw [h1.2, List.take_of_length_le (by omega)]
   subst e
   clear hlt
   go_wp2
   go_ret
   exact ⟨_, rfl, HR.out, HB.out⟩
end
end Go.Proofs.Ytalimpniimgheaa.Fn
namespace Go.Proofs.Ytalimpniimgheaa.Fn
open Go.RowKit Go.Proofs.YtalimpniimgheaaW.PrintWords Go.Proofs.YtalimpniimgheaaW.PrintLast Go.Proofs.YtalimpniimgheaaW.PrintMore
attribute [local go_sem] max2_int min2_int max_two min_two max_three min_three max_four min_four
set_option linter.unusedVariables false
set_option linter.unusedSimpArgs false
def parcloselaw23_owns.l0 : Nat → List (S64) → List (S65) → Int → Option ((List (S65)))
 | 0, _, _, _ => none
 | k + 1, x0, x3, x4 => if x4 < (x0.length : Int) then (if 0 ≤ x4 then (if x3.length < 4398046511104 then (parcloselaw23_owns.l0 k x0 (x3 ++ [(⟨(rd_T64 x0 x4).f0, (rd_T64 x0 x4).f1, (rd_T64 x0 x4).f2, (rd_T64 x0 x4).f3⟩ : S65)]) (wrap64 (x4 + 1))) else (none)) else (none)) else (some x3)
def parcloselaw23_owns.f (k : Nat) (l0 : List (S64)) : Option ((List (S65))) := parcloselaw23_owns.l0 k l0 ([] : List (S65)) 0
set_option maxHeartbeats 8000000 in
set_option maxRecDepth 100000 in
theorem parcloselaw23_owns.calls (k : Nat) (A0 : Option Addr) (c0 : Nat) (l0 : List (S64)) (r : List (S65)) (w : World) (hr0 : Kd.C k64 w A0 l0.length l0) (hc0 : l0.length ≤ c0) (h : parcloselaw23_owns.f k l0 = some r) :
  Calls Try.prog 18 #[.slice A0 l0.length c0] w fun e w' => ∃ v0_ : Value, e = .returned (v0_) ∧ Kd.R k65 65 w' w.heap.size (fun _ => True) v0_ r ∧ Below w.heap.size w w' := by
 have hu64 := Try.underlying64
 have HR0 := asd hr0
 have HC0 := asd hc0
 clear hr0 hc0
 have HB := asd (Below.refl w.heap.size w)
 have H : (parcloselaw23_owns.l0 k l0 ([] : List (S65)) 0) = some r := h
 clear h
 have H' := asd H
 clear H
 go_enter Try.func18, Try.ntmps18
 go_wp2
 go_loopg [3, 4] k (fun kq v3 v4 w' => ∃ (x3_1 : List (S65)) (x4_1 : Int), v4 = .int .i64 x4_1 ∧ Aside0 (parcloselaw23_owns.l0 kq l0 x3_1 x4_1 = some r) ∧ Aside0 (kq ≤ k) ∧ Aside0 (Kd.R k65 65 w' w.heap.size (fun _ => True) v3 x3_1) ∧ Aside0 (Below w.heap.size w w'))
 case atStart => exact ⟨(([] : List (S65))), (0), (by first | rfl | (simp; done) | (simp [*]; done)), H', ⟨Nat.le_refl _⟩, ⟨by first | exact Kd.R_nil _ _ _ _ _ | exact Kd.N_nil _ _ _ _ _ | exact Kd.V_nil _ _ _ _ _ | exact Kd.Q_nil _ _ _ _ _ | exact Kd.S_nil _ _ _ _ _⟩, ⟨by repeat (first | (with_reducible first | exact HB.out | apply wa | apply wn | apply wd) | exact HB.out)⟩⟩
 case round =>
  clear H'
  try clear c1
  obtain ⟨x3_1, x4_1, rfl, HA, HK1, HO_3, HB⟩ := hrel
  cases gk with
  | zero => exact absurd HA.out (by simp [parcloselaw23_owns.l0])
  | succ k1 =>
   have H := HA.out
   clear HA
   simp only [parcloselaw23_owns.l0] at H
   by_cases c2 : x4_1 < (l0.length : Int)
   ·rw [if_pos c2] at H
    have c2b0 : decide (x4_1 < (l0.length : Int)) = true := decide_eq_true c2
    clear c2
    by_cases c3 : 0 ≤ x4_1
    ·rw [if_pos c3] at H
     have c3b0 : decide (0 ≤ x4_1) = true := decide_eq_true c3
     clear c3
     by_cases c4 : x3_1.length < 4398046511104
     ·rw [if_pos c4] at H
      have LMc4 := asd c4
      clear c4
      obtain ⟨y112, hy112⟩ : ∃ y_ : List (S65), y_ = (x3_1 ++ [(⟨(rd_T64 l0 x4_1).f0, (rd_T64 l0 x4_1).f1, (rd_T64 l0 x4_1).f2, (rd_T64 l0 x4_1).f3⟩ : S65)]) := ⟨_, rfl⟩
      replace H : (parcloselaw23_owns.l0 k1 l0 y112 (wrap64 (x4_1 + 1))) = some r := by first | (rw [hy112]; with_reducible exact H) | (have H2_ := (Option.bind_some _ _).symm.trans H; rw [hy112]; with_reducible exact H2_) | (have H2_ := (Option.bind_some _ _).symm.trans H; with_reducible exact H2_) | with_reducible exact H | (rw [hy112]; exact H) | exact H
      have Ny112 := asd hy112
      clear hy112
      have H' := asd H
      clear H
      have p111 : 0 ≤ (x4_1 : Int) := of_decide_eq_true (by assumption)
      have q111 : x4_1 < (l0.length : Int) := of_decide_eq_true (by assumption)
      obtain ⟨ad111, e111, hx111_0, hx111_1, hx111_2, hx111_3⟩ := at_T64 HR0.out x4_1 p111 q111
      cases e111
      replace hx111_0 := (HB.out.cell (World.block_lt_of_cell? w _ hx111_0)).trans hx111_0
      replace hx111_1 := (HB.out.cell (World.block_lt_of_cell? w _ hx111_1)).trans hx111_1
      replace hx111_2 := (HB.out.cell (World.block_lt_of_cell? w _ hx111_2)).trans hx111_2
      replace hx111_3 := (HB.out.cell (World.block_lt_of_cell? w _ hx111_3)).trans hx111_3
      replace p111 := eq_true p111
      replace q111 := eq_true q111
      go_wp2_with (first | ((with_reducible refine gate_builtin (b := .append) (xs := #[.tmp 11, .tmp 16]) rfl ?_); at_builtin; refine Kd.R_append k65 (w0 := w) w.heap.size rfl (.tmp 11) (.tmp 16) 31 65 (.agg #[(.int .i64 0), (.int .i64 0), (.int .i64 0), (.int .i64 0)]) 32 rfl Try.underlying31 info65 rfl (by decide) (by omega) u3 x3_1 (⟨(rd_T64 l0 x4_1).f0, (rd_T64 l0 x4_1).f1, (rd_T64 l0 x4_1).f2, (rd_T64 l0 x4_1).f3⟩ : S65) [.int .i64 ((rd_T64 l0 x4_1).f0), .int .i64 ((rd_T64 l0 x4_1).f1), .int .i64 ((rd_T64 l0 x4_1).f2), .int .i64 ((rd_T64 l0 x4_1).f3)] (fun _ => True) (fun _ => False) rfl rfl ?aP (fun _ hk => hk.elim) ?aF ?aO ?aB ?aS ?aL ?_; (case aP => exact k65_mkM _ _ _ (⟨(rd_T64 l0 x4_1).f0, (rd_T64 l0 x4_1).f1, (rd_T64 l0 x4_1).f2, (rd_T64 l0 x4_1).f3⟩ : S65)); (case aB => exact (by repeat (first | (with_reducible first | exact HB.out | apply wa | apply wn | apply wd) | exact HB.out))); (case aF => exact (fun _ _ => trivial)); (case aO => exact (by (with_reducible repeat (first | apply Kd.R_alloc | apply Kd.R_drewN | apply Kd.R_drew)); exact HO_3.out)); (case aS => exact (below_size (by repeat (first | (with_reducible first | exact HB.out | apply wa | apply wn | apply wd) | exact HB.out)))); (case aL => have := LMc4.out; omega); intro v113 w5 ho hb hg hat; rw [← Ny112.out] at ho; have n0_ := asd (hb); have n1_ := asd (ho); clear HB; clear HO_3; have HB := n0_; have HO114 := n1_; clear n0_ n1_; clear ho hb hg hat))
      go_roundg k1
      case measure => have := HK1.out; omega
      case rel => exact ⟨(y112), (wrap64 (x4_1 + 1)), (by first | rfl | (simp; done) | (simp [*]; done)), H', ⟨by have := HK1.out; omega⟩, ⟨by (with_reducible repeat (first | apply Kd.R_alloc | apply Kd.R_drewN | apply Kd.R_drew)); exact HO114.out⟩, ⟨by repeat (first | (with_reducible first | exact HB.out | apply wa | apply wn | apply wd) | exact HB.out)⟩⟩
     ·rw [if_neg c4] at H
      exact absurd H (by simp)
    ·rw [if_neg c3] at H
     exact absurd H (by simp)
   ·rw [if_neg c2] at H
    have c2b0 : decide (x4_1 < (l0.length : Int)) = false := decide_eq_false c2
    clear c2
    obtain rfl := Option.some.inj H
    go_wp2
    go_ret
    exact ⟨_, by first | rfl | (simp [*] <;> rfl), by (with_reducible repeat (first | apply Kd.R_alloc | apply Kd.R_drewN | apply Kd.R_drew)); exact HO_3.out, by repeat (first | (with_reducible first | exact HB.out | apply wa | apply wn | apply wd) | exact HB.out)⟩
end Go.Proofs.Ytalimpniimgheaa.Fn
namespace Go.Proofs.Ytalimpniimgheaa.Fn
open Go.RowKit Go.Proofs.YtalimpniimgheaaW.PrintWords Go.Proofs.YtalimpniimgheaaW.PrintLast Go.Proofs.YtalimpniimgheaaW.PrintMore
attribute [local go_sem] max2_int min2_int max_two min_two max_three min_three max_four min_four
set_option linter.unusedVariables false
set_option linter.unusedSimpArgs false
def parcloselaw23_Refs.l0 : Nat → List (S65) → List (S64) → Int → Option ((List (S64)))
 | 0, _, _, _ => none
 | k + 1, x0, x3, x4 => if x4 < (x0.length : Int) then (if 0 ≤ x4 then (if x3.length < 4398046511104 then (parcloselaw23_Refs.l0 k x0 (x3 ++ [(⟨(rd_T65 x0 x4).f0, (rd_T65 x0 x4).f1, (rd_T65 x0 x4).f2, (rd_T65 x0 x4).f3⟩ : S64)]) (wrap64 (x4 + 1))) else (none)) else (none)) else (some x3)
def parcloselaw23_Refs.f (k : Nat) (l0 : List (S65)) : Option ((List (S64))) := parcloselaw23_Refs.l0 k l0 ([] : List (S64)) 0
set_option maxHeartbeats 8000000 in
set_option maxRecDepth 100000 in
theorem parcloselaw23_Refs.calls (k : Nat) (A0 : Option Addr) (c0 : Nat) (l0 : List (S65)) (r : List (S64)) (w : World) (hr0 : Kd.C k65 w A0 l0.length l0) (hc0 : l0.length ≤ c0) (h : parcloselaw23_Refs.f k l0 = some r) :
  Calls Try.prog 23 #[.slice A0 l0.length c0] w fun e w' => ∃ v0_ : Value, e = .returned (v0_) ∧ Kd.R k64 64 w' w.heap.size (fun _ => True) v0_ r ∧ Below w.heap.size w w' := by
 have hu65 := Try.underlying65
 have HR0 := asd hr0
 have HC0 := asd hc0
 clear hr0 hc0
 have HB := asd (Below.refl w.heap.size w)
 have H : (parcloselaw23_Refs.l0 k l0 ([] : List (S64)) 0) = some r := h
 clear h
 have H' := asd H
 clear H
 go_enter Try.func23, Try.ntmps23
 go_wp2
 go_loopg [3, 4] k (fun kq v3 v4 w' => ∃ (x3_1 : List (S64)) (x4_1 : Int), v4 = .int .i64 x4_1 ∧ Aside0 (parcloselaw23_Refs.l0 kq l0 x3_1 x4_1 = some r) ∧ Aside0 (kq ≤ k) ∧ Aside0 (Kd.R k64 64 w' w.heap.size (fun _ => True) v3 x3_1) ∧ Aside0 (Below w.heap.size w w'))
 case atStart => exact ⟨(([] : List (S64))), (0), (by first | rfl | (simp; done) | (simp [*]; done)), H', ⟨Nat.le_refl _⟩, ⟨by first | exact Kd.R_nil _ _ _ _ _ | exact Kd.N_nil _ _ _ _ _ | exact Kd.V_nil _ _ _ _ _ | exact Kd.Q_nil _ _ _ _ _ | exact Kd.S_nil _ _ _ _ _⟩, ⟨by repeat (first | (with_reducible first | exact HB.out | apply wa | apply wn | apply wd) | exact HB.out)⟩⟩
 case round =>
  clear H'
  obtain ⟨x3_1, x4_1, rfl, HA, HK1, HO_3, HB⟩ := hrel
  cases gk with
  | zero => exact absurd HA.out (by simp [parcloselaw23_Refs.l0])
  | succ k1 =>
   have H := HA.out
   clear HA
   simp only [parcloselaw23_Refs.l0] at H
   by_cases c2 : x4_1 < (l0.length : Int)
   ·rw [if_pos c2] at H
    have c2b0 : decide (x4_1 < (l0.length : Int)) = true := decide_eq_true c2
    clear c2
    by_cases c3 : 0 ≤ x4_1
    ·rw [if_pos c3] at H
     have c3b0 : decide (0 ≤ x4_1) = true := decide_eq_true c3
     clear c3
     by_cases c4 : x3_1.length < 4398046511104
     ·rw [if_pos c4] at H
      have LMc4 := asd c4
      clear c4
      obtain ⟨y119, hy119⟩ : ∃ y_ : List (S64), y_ = (x3_1 ++ [(⟨(rd_T65 l0 x4_1).f0, (rd_T65 l0 x4_1).f1, (rd_T65 l0 x4_1).f2, (rd_T65 l0 x4_1).f3⟩ : S64)]) := ⟨_, rfl⟩
      replace H : (parcloselaw23_Refs.l0 k1 l0 y119 (wrap64 (x4_1 + 1))) = some r := by first | (rw [hy119]; with_reducible exact H) | (have H2_ := (Option.bind_some _ _).symm.trans H; rw [hy119]; with_reducible exact H2_) | (have H2_ := (Option.bind_some _ _).symm.trans H; with_reducible exact H2_) | with_reducible exact H | (rw [hy119]; exact H) | exact H
      have Ny119 := asd hy119
      clear hy119
      have H' := asd H
      clear H
      have p118 : 0 ≤ (x4_1 : Int) := of_decide_eq_true (by assumption)
      have q118 : x4_1 < (l0.length : Int) := of_decide_eq_true (by assumption)
      obtain ⟨ad118, e118, hx118_0, hx118_1, hx118_2, hx118_3⟩ := at_T65 HR0.out x4_1 p118 q118
      cases e118
      replace hx118_0 := (HB.out.cell (World.block_lt_of_cell? w _ hx118_0)).trans hx118_0
      replace hx118_1 := (HB.out.cell (World.block_lt_of_cell? w _ hx118_1)).trans hx118_1
      replace hx118_2 := (HB.out.cell (World.block_lt_of_cell? w _ hx118_2)).trans hx118_2
      replace hx118_3 := (HB.out.cell (World.block_lt_of_cell? w _ hx118_3)).trans hx118_3
      replace p118 := eq_true p118
      replace q118 := eq_true q118
      go_wp2_with (first | ((with_reducible refine gate_builtin (b := .append) (xs := #[.tmp 11, .tmp 16]) rfl ?_); at_builtin; refine Kd.R_append k64 (w0 := w) w.heap.size rfl (.tmp 11) (.tmp 16) 29 64 (.agg #[(.int .i64 0), (.int .i64 0), (.int .i64 0), (.int .i64 0)]) 32 rfl Try.underlying29 info64 rfl (by decide) (by omega) u3 x3_1 (⟨(rd_T65 l0 x4_1).f0, (rd_T65 l0 x4_1).f1, (rd_T65 l0 x4_1).f2, (rd_T65 l0 x4_1).f3⟩ : S64) [.int .i64 ((rd_T65 l0 x4_1).f0), .int .i64 ((rd_T65 l0 x4_1).f1), .int .i64 ((rd_T65 l0 x4_1).f2), .int .i64 ((rd_T65 l0 x4_1).f3)] (fun _ => True) (fun _ => False) rfl rfl ?aP (fun _ hk => hk.elim) ?aF ?aO ?aB ?aS ?aL ?_; (case aP => exact k64_mkM _ _ _ (⟨(rd_T65 l0 x4_1).f0, (rd_T65 l0 x4_1).f1, (rd_T65 l0 x4_1).f2, (rd_T65 l0 x4_1).f3⟩ : S64)); (case aB => exact (by repeat (first | (with_reducible first | exact HB.out | apply wa | apply wn | apply wd) | exact HB.out))); (case aF => exact (fun _ _ => trivial)); (case aO => exact (by (with_reducible repeat (first | apply Kd.R_alloc | apply Kd.R_drewN | apply Kd.R_drew)); exact HO_3.out)); (case aS => exact (below_size (by repeat (first | (with_reducible first | exact HB.out | apply wa | apply wn | apply wd) | exact HB.out)))); (case aL => have := LMc4.out; omega); intro v120 w5 ho hb hg hat; rw [← Ny119.out] at ho; have n0_ := asd (hb); have n1_ := asd (ho); clear HB; clear HO_3; have HB := n0_; have HO121 := n1_; clear n0_ n1_; clear ho hb hg hat))
      go_roundg k1
      case measure => have := HK1.out; omega
      case rel => exact ⟨(y119), (wrap64 (x4_1 + 1)), (by first | rfl | (simp; done) | (simp [*]; done)), H', ⟨by have := HK1.out; omega⟩, ⟨by (with_reducible repeat (first | apply Kd.R_alloc | apply Kd.R_drewN | apply Kd.R_drew)); exact HO121.out⟩, ⟨by repeat (first | (with_reducible first | exact HB.out | apply wa | apply wn | apply wd) | exact HB.out)⟩⟩
     ·rw [if_neg c4] at H
      exact absurd H (by simp)
    ·rw [if_neg c3] at H
     exact absurd H (by simp)
   ·rw [if_neg c2] at H
    have c2b0 : decide (x4_1 < (l0.length : Int)) = false := decide_eq_false c2
    clear c2
    obtain rfl := Option.some.inj H
    go_wp2
    go_ret
    exact ⟨_, by first | rfl | (simp [*] <;> rfl), by (with_reducible repeat (first | apply Kd.R_alloc | apply Kd.R_drewN | apply Kd.R_drew)); exact HO_3.out, by repeat (first | (with_reducible first | exact HB.out | apply wa | apply wn | apply wd) | exact HB.out)⟩
end Go.Proofs.Ytalimpniimgheaa.Fn
namespace Go.Proofs.Ytalimpniimgheaa.Fn
open Go.RowKit Go.Proofs.YtalimpniimgheaaW.PrintWords Go.Proofs.YtalimpniimgheaaW.PrintLast Go.Proofs.YtalimpniimgheaaW.PrintMore
attribute [local go_sem] max2_int min2_int max_two min_two max_three min_three max_four min_four
set_option linter.unusedVariables false
set_option linter.unusedSimpArgs false
theorem eqA64 (d : Nat) (w : World) (x0 y0 : Int) (x1 y1 : Int) (x2 y2 : Int) (x3 y3 : Int) :
  (Op.equalIn (d + 2) 64 (.agg #[.int .i64 x0, .int .i64 x1, .int .i64 x2, .int .i64 x3]) (.agg #[.int .i64 y0, .int .i64 y1, .int .i64 y2, .int .i64 y3])).run Try.prog w = .ok (x0 == y0 && (x1 == y1 && (x2 == y2 && (x3 == y3)))) w := by
 refine eqA_of Try.underlying64 (by kernel_rfl) ?_
 refine eqf_cons (by rfl) (by go_simp; rfl) (by go_simp; rfl) (by go_simp) ?_
 refine eqf_cons (by rfl) (by go_simp; rfl) (by go_simp; rfl) (by go_simp) ?_
 refine eqf_cons (by rfl) (by go_simp; rfl) (by go_simp; rfl) (by go_simp) ?_
 exact eqf_last (by rfl) (by go_simp; rfl) (by go_simp; rfl) (by go_simp)
end Go.Proofs.Ytalimpniimgheaa.Fn
namespace Go.Proofs.Ytalimpniimgheaa.Fn
open Go.RowKit Go.Proofs.YtalimpniimgheaaW.PrintWords Go.Proofs.YtalimpniimgheaaW.PrintLast Go.Proofs.YtalimpniimgheaaW.PrintMore
attribute [local go_sem] max2_int min2_int max_two min_two max_three min_three max_four min_four
set_option linter.unusedVariables false
set_option linter.unusedSimpArgs false
attribute [local go_sem high] eqA64
def parcloseref23_Same.l0 : Nat → List (S64) → List (S64) → Int → Option (Bool)
 | 0, _, _, _ => none
 | k + 1, x0, x1, x5 => if x5 < (x0.length : Int) then (if 0 ≤ x5 then (if x5 < (x1.length : Int) then (if (!(((rd_T64 x0 x5).f0) == ((rd_T64 x1 x5).f0)) || (!(((rd_T64 x0 x5).f1) == ((rd_T64 x1 x5).f1)) || (!(((rd_T64 x0 x5).f2) == ((rd_T64 x1 x5).f2)) || (!(((rd_T64 x0 x5).f3) == ((rd_T64 x1 x5).f3)))))) = true then (some false) else (parcloseref23_Same.l0 k x0 x1 (wrap64 (x5 + 1)))) else (none)) else (none)) else (some true)
def parcloseref23_Same.f (k : Nat) (l0 : List (S64)) (l1 : List (S64)) : Option (Bool) := if (l0.length : Int) = (l1.length : Int) then (parcloseref23_Same.l0 k l0 l1 0) else (some false)
set_option maxHeartbeats 8000000 in
set_option maxRecDepth 100000 in
theorem parcloseref23_Same.calls (k : Nat) (A0 : Option Addr) (c0 : Nat) (l0 : List (S64)) (A1 : Option Addr) (c1 : Nat) (l1 : List (S64)) (r : Bool) (w : World) (hr0 : Kd.C k64 w A0 l0.length l0) (hc0 : l0.length ≤ c0) (hr1 : Kd.C k64 w A1 l1.length l1) (hc1 : l1.length ≤ c1) (h : parcloseref23_Same.f k l0 l1 = some r) :
  Calls Try.prog 22 #[.slice A0 l0.length c0, .slice A1 l1.length c1] w fun e w' => e = .returned (.bool r) ∧ Drawn0 w w' := by
 have hu64 := Try.underlying64
 have HR0 := asd hr0
 have HC0 := asd hc0
 clear hr0 hc0
 have HR1 := asd hr1
 have HC1 := asd hc1
 clear hr1 hc1
 have H : (if (l0.length : Int) = (l1.length : Int) then (parcloseref23_Same.l0 k l0 l1 0) else (some false)) = some r := h
 clear h
 by_cases c3 : (l0.length : Int) = (l1.length : Int)
 ·rw [if_pos c3] at H
  have c3b0 : ((l0.length : Int) == (l1.length : Int)) = true := beq_iff_eq.mpr c3
  have c3b1 : ((l0.length : Int) != (l1.length : Int)) = false := bne_eq_false_iff_eq.mpr c3
  have c3b2 : (l0.length == l1.length) = true := by first | simpa using c3 | (simp at c3 ⊢; omega)
  clear c3
  have H' := asd H
  clear H
  go_enter Try.func22, Try.ntmps22
  go_wp2
  repeat (go_quiet (fail); try go_wp2)
  go_loopg [5] k (fun kq v5 w' => ∃ (x5_1 : Int), v5 = .int .i64 x5_1 ∧ Aside0 (parcloseref23_Same.l0 kq l0 l1 x5_1 = some r) ∧ Aside0 (kq ≤ k) ∧ Drawn0 w w')
  case atStart => exact ⟨(0), (by first | rfl | (simp; done) | (simp [*]; done)), H', ⟨Nat.le_refl _⟩, by repeat (first | exact Drawn0.refl _ | apply Drawn0.step)⟩
  case round =>
   clear H'
   try clear c1
   try clear c2
   try clear p2
   try clear c3
   try clear c3b0
   try clear c3b1
   try clear c3b2
   obtain ⟨x5_1, rfl, HA, HK1, ⟨m1, rfl⟩⟩ := hrel
   cases gk with
   | zero => exact absurd HA.out (by simp [parcloseref23_Same.l0])
   | succ k1 =>
    have H := HA.out
    clear HA
    simp only [parcloseref23_Same.l0] at H
    by_cases c4 : x5_1 < (l0.length : Int)
    ·rw [if_pos c4] at H
     have c4b0 : decide (x5_1 < (l0.length : Int)) = true := decide_eq_true c4
     clear c4
     by_cases c5 : 0 ≤ x5_1
     ·rw [if_pos c5] at H
      have c5b0 : decide (0 ≤ x5_1) = true := decide_eq_true c5
      clear c5
      by_cases c6 : x5_1 < (l1.length : Int)
      ·rw [if_pos c6] at H
       have c6b0 : decide (x5_1 < (l1.length : Int)) = true := decide_eq_true c6
       clear c6
       by_cases c7 : (!(((rd_T64 l0 x5_1).f0) == ((rd_T64 l1 x5_1).f0)) || (!(((rd_T64 l0 x5_1).f1) == ((rd_T64 l1 x5_1).f1)) || (!(((rd_T64 l0 x5_1).f2) == ((rd_T64 l1 x5_1).f2)) || (!(((rd_T64 l0 x5_1).f3) == ((rd_T64 l1 x5_1).f3)))))) = true
       ·rw [if_pos c7] at H
        have c7b0 : (!(((rd_T64 l0 x5_1).f0) == ((rd_T64 l1 x5_1).f0)) || (!(((rd_T64 l0 x5_1).f1) == ((rd_T64 l1 x5_1).f1)) || (!(((rd_T64 l0 x5_1).f2) == ((rd_T64 l1 x5_1).f2)) || (!(((rd_T64 l0 x5_1).f3) == ((rd_T64 l1 x5_1).f3)))))) = true := c7
        clear c7
        obtain rfl := Option.some.inj H
        have p116 : 0 ≤ (x5_1 : Int) := of_decide_eq_true (by assumption)
        have q116 : x5_1 < (l0.length : Int) := of_decide_eq_true (by assumption)
        obtain ⟨ad116, e116, hx116_0, hx116_1, hx116_2, hx116_3⟩ := at_T64 HR0.out x5_1 p116 q116
        cases e116
        replace p116 := eq_true p116
        replace q116 := eq_true q116
        have p117 : 0 ≤ (x5_1 : Int) := of_decide_eq_true (by assumption)
        have q117 : x5_1 < (l1.length : Int) := of_decide_eq_true (by assumption)
        obtain ⟨ad117, e117, hx117_0, hx117_1, hx117_2, hx117_3⟩ := at_T64 HR1.out x5_1 p117 q117
        cases e117
        replace p117 := eq_true p117
        replace q117 := eq_true q117
        go_wp2
        repeat (go_quiet (fail); try go_wp2)
        go_ret
        exact ⟨by first | rfl | (simp; done) | (simp [*]; done), by repeat (first | exact Drawn0.refl _ | apply Drawn0.step)⟩
       ·rw [if_neg c7] at H
        have c7b0 : (!(((rd_T64 l0 x5_1).f0) == ((rd_T64 l1 x5_1).f0)) || (!(((rd_T64 l0 x5_1).f1) == ((rd_T64 l1 x5_1).f1)) || (!(((rd_T64 l0 x5_1).f2) == ((rd_T64 l1 x5_1).f2)) || (!(((rd_T64 l0 x5_1).f3) == ((rd_T64 l1 x5_1).f3)))))) = false := by simpa using c7
        clear c7
        have H' := asd H
        clear H
        have p116 : 0 ≤ (x5_1 : Int) := of_decide_eq_true (by assumption)
        have q116 : x5_1 < (l0.length : Int) := of_decide_eq_true (by assumption)
        obtain ⟨ad116, e116, hx116_0, hx116_1, hx116_2, hx116_3⟩ := at_T64 HR0.out x5_1 p116 q116
        cases e116
        replace p116 := eq_true p116
        replace q116 := eq_true q116
        have p117 : 0 ≤ (x5_1 : Int) := of_decide_eq_true (by assumption)
        have q117 : x5_1 < (l1.length : Int) := of_decide_eq_true (by assumption)
        obtain ⟨ad117, e117, hx117_0, hx117_1, hx117_2, hx117_3⟩ := at_T64 HR1.out x5_1 p117 q117
        cases e117
        replace p117 := eq_true p117
        replace q117 := eq_true q117
        go_wp2
        repeat (go_quiet (fail); try go_wp2)
        go_roundg k1
        case measure => have := HK1.out; omega
        case rel => exact ⟨(wrap64 (x5_1 + 1)), (by first | rfl | (simp; done) | (simp [*]; done)), H', ⟨by have := HK1.out; omega⟩, by repeat (first | exact Drawn0.refl _ | apply Drawn0.step)⟩
      ·rw [if_neg c6] at H
       exact absurd H (by simp)
     ·rw [if_neg c5] at H
      exact absurd H (by simp)
    ·rw [if_neg c4] at H
     have c4b0 : decide (x5_1 < (l0.length : Int)) = false := decide_eq_false c4
     clear c4
     obtain rfl := Option.some.inj H
     go_wp2
     repeat (go_quiet (fail); try go_wp2)
     go_ret
     exact ⟨by first | rfl | (simp; done) | (simp [*]; done), by repeat (first | exact Drawn0.refl _ | apply Drawn0.step)⟩
 ·rw [if_neg c3] at H
  have c3b0 : ((l0.length : Int) == (l1.length : Int)) = false := beq_eq_false_iff_ne.mpr c3
  have c3b1 : ((l0.length : Int) != (l1.length : Int)) = true := bne_iff_ne.mpr c3
  have c3b2 : (l0.length == l1.length) = false := by first | simpa using c3 | (simp at c3 ⊢; omega)
  obtain rfl := Option.some.inj H
  go_enter Try.func22, Try.ntmps22
  go_wp2
  repeat (go_quiet (fail); try go_wp2)
  go_ret
  exact ⟨by first | rfl | (simp; done) | (simp [*]; done), by repeat (first | exact Drawn0.refl _ | apply Drawn0.step)⟩
end Go.Proofs.Ytalimpniimgheaa.Fn
namespace Go.Proofs.Ytalimpniimgheaa.Fn
open Go.RowKit Go.Proofs.YtalimpniimgheaaW.PrintWords Go.Proofs.YtalimpniimgheaaW.PrintLast Go.Proofs.YtalimpniimgheaaW.PrintMore
attribute [local go_sem] max2_int min2_int max_two min_two max_three min_three max_four min_four
set_option linter.unusedVariables false
set_option linter.unusedSimpArgs false
theorem eqA65 (d : Nat) (w : World) (x0 y0 : Int) (x1 y1 : Int) (x2 y2 : Int) (x3 y3 : Int) :
  (Op.equalIn (d + 2) 65 (.agg #[.int .i64 x0, .int .i64 x1, .int .i64 x2, .int .i64 x3]) (.agg #[.int .i64 y0, .int .i64 y1, .int .i64 y2, .int .i64 y3])).run Try.prog w = .ok (x0 == y0 && (x1 == y1 && (x2 == y2 && (x3 == y3)))) w := by
 refine eqA_of Try.underlying65 (by kernel_rfl) ?_
 refine eqf_cons (by rfl) (by go_simp; rfl) (by go_simp; rfl) (by go_simp) ?_
 refine eqf_cons (by rfl) (by go_simp; rfl) (by go_simp; rfl) (by go_simp) ?_
 refine eqf_cons (by rfl) (by go_simp; rfl) (by go_simp; rfl) (by go_simp) ?_
 exact eqf_last (by rfl) (by go_simp; rfl) (by go_simp; rfl) (by go_simp)
end Go.Proofs.Ytalimpniimgheaa.Fn
namespace Go.Proofs.Ytalimpniimgheaa.Fn
open Go.RowKit Go.Proofs.YtalimpniimgheaaW.PrintWords Go.Proofs.YtalimpniimgheaaW.PrintLast Go.Proofs.YtalimpniimgheaaW.PrintMore
attribute [local go_sem] max2_int min2_int max_two min_two max_three min_three max_four min_four
set_option linter.unusedVariables false
set_option linter.unusedSimpArgs false
attribute [local go_sem high] eqA65
def journal_Entry_77.l0 : Nat → List (S65) → List (S65) → Int → Int → Option (Bool)
 | 0, _, _, _, _ => none
 | k + 1, x0, x1, x12, x13 => if x13 < x12 then (if 0 ≤ x13 then (if x13 < (x0.length : Int) then (if x13 < (x1.length : Int) then (if (!(((rd_T65 x0 x13).f0) == ((rd_T65 x1 x13).f0)) || (!(((rd_T65 x0 x13).f1) == ((rd_T65 x1 x13).f1)) || (!(((rd_T65 x0 x13).f2) == ((rd_T65 x1 x13).f2)) || (!(((rd_T65 x0 x13).f3) == ((rd_T65 x1 x13).f3)))))) = true then (some false) else (journal_Entry_77.l0 k x0 x1 x12 (wrap64 (x13 + 1)))) else (none)) else (none)) else (none)) else (some true)
def journal_Entry_77.f (k : Nat) (l0 : List (S65)) (l1 : List (S65)) : Option (Bool) := if (l0.length : Int) = (l1.length : Int) then (journal_Entry_77.l0 k l0 l1 (l0.length : Int) 0) else (some false)
end Go.Proofs.Ytalimpniimgheaa.Fn
namespace Go.Proofs.Ytalimpniimgheaa.Fn
open Go.RowKit Go.Proofs.YtalimpniimgheaaW.PrintWords Go.Proofs.YtalimpniimgheaaW.PrintLast Go.Proofs.YtalimpniimgheaaW.PrintMore
attribute [local go_sem] max2_int min2_int max_two min_two max_three min_three max_four min_four
set_option linter.unusedVariables false
set_option linter.unusedSimpArgs false
def journal_Same.f (k : Nat) (l0 : List (S65)) (l1 : List (S65)) : Option (Bool) := (journal_Entry_77.f k l0 l1).bind fun t230 => (some t230)
end Go.Proofs.Ytalimpniimgheaa.Fn
namespace Go.Proofs.Ytalimpniimgheaa.Fn
open Go.RowKit Go.Proofs.YtalimpniimgheaaW.PrintWords Go.Proofs.YtalimpniimgheaaW.PrintLast Go.Proofs.YtalimpniimgheaaW.PrintMore
attribute [local go_sem] max2_int min2_int max_two min_two max_three min_three max_four min_four
set_option linter.unusedVariables false
set_option linter.unusedSimpArgs false
def parcloseref23_Word.f (a0 : Int) : Option (ByteArray) := (some (([(⟨#[97, 99, 99, 101, 112, 116]⟩ : ByteArray), (⟨#[114, 101, 102, 117, 115, 101]⟩ : ByteArray), (⟨#[97, 115, 107]⟩ : ByteArray), (⟨#[114, 97, 110]⟩ : ByteArray), (⟨#[101, 110, 100, 101, 100]⟩ : ByteArray), (⟨#[111, 118, 101, 114]⟩ : ByteArray), (⟨#[109, 105, 115, 115, 101, 100]⟩ : ByteArray), (⟨#[114, 111, 115, 101]⟩ : ByteArray), (⟨#[100, 114, 111, 112, 112, 101, 100]⟩ : ByteArray), (⟨#[102, 101, 108, 108]⟩ : ByteArray), (⟨#[115, 101, 114, 118, 101, 100]⟩ : ByteArray), (⟨#[111, 112]⟩ : ByteArray), (⟨#[102, 97, 117, 108, 116]⟩ : ByteArray), (⟨#[111, 114, 100, 101, 114]⟩ : ByteArray), (⟨#[109, 97, 114, 107]⟩ : ByteArray)] : List ByteArray) : List ByteArray)).bind fun y224 => (if a0 < 0 then (some (⟨#[]⟩ : ByteArray)) else (if a0 ≥ (y224.length : Int) then (some (⟨#[]⟩ : ByteArray)) else (if 0 ≤ a0 then (if a0 < (y224.length : Int) then (some (rdOf ByteArray.empty y224 a0)) else (none)) else (none))))
end Go.Proofs.Ytalimpniimgheaa.Fn
namespace Go.Proofs.Ytalimpniimgheaa.Fn
open Go.RowKit Go.Proofs.YtalimpniimgheaaW.PrintWords Go.Proofs.YtalimpniimgheaaW.PrintLast Go.Proofs.YtalimpniimgheaaW.PrintMore
set_option linter.unusedVariables false
set_option linter.unusedSimpArgs false
attribute [local go_sem] max2_mx min2_mn max_two min_two
instance : DecidableEq S64 := fun a b => decidable_of_iff (a.f0 = b.f0 ∧ a.f1 = b.f1 ∧ a.f2 = b.f2 ∧ a.f3 = b.f3) (by cases a; cases b; simp)
instance : DecidableEq S65 := fun a b => decidable_of_iff (a.f0 = b.f0 ∧ a.f1 = b.f1 ∧ a.f2 = b.f2 ∧ a.f3 = b.f3) (by cases a; cases b; simp)
def toE (x : S64) : S65 := ⟨x.f0, x.f1, x.f2, x.f3⟩
def toR (x : S65) : S64 := ⟨x.f0, x.f1, x.f2, x.f3⟩
theorem map_RE (l : List S64) : (l.map toE).map toR = l := by rw [List.map_map]; exact List.map_id'' (fun x => rfl) l
theorem owns_ev (l : List S64) (hl : l.length ≤ 65536) : ∀ (n x : Nat) (acc : List S65), x + n = l.length → acc.length ≤ x → Ev (fun k => parcloselaw23_owns.l0 k l acc (x : Int)) (acc ++ (l.drop x).map toE) := by
 intro n
 induction n with
 | zero =>
  intro x acc hx ha
  refine Ev.step (f := fun _ => some acc) (fun k => by simp only [parcloselaw23_owns.l0]; rw [if_neg (by omega)]) ?_
  rw [List.drop_of_length_le (by omega)]
  simp only [List.map_nil, List.append_nil]
  exact Ev.now _
 | succ n ih =>
  intro x acc hx ha
  refine Ev.step (f := fun k => parcloselaw23_owns.l0 k l (acc ++ [toE (l.getD x z64)]) ((x + 1 : Nat) : Int)) (fun k => by
   simp only [parcloselaw23_owns.l0]
   rw [if_pos (by omega), if_pos (by omega), if_pos (by omega), show wrap64 ((x : Int) + 1) = ((x + 1 : Nat) : Int) by unfold wrap64; omega]
   rfl) ?_
  have h := ih (x + 1) (acc ++ [toE (l.getD x z64)]) (by omega) (by simp; omega)
  rw [List.append_assoc] at h
  have e : l.drop x = l.getD x z64 :: l.drop (x + 1) := by rw [getD_lt l z64 (by omega)]; exact List.drop_eq_getElem_cons (by omega)
  rw [e, List.map_cons]
  exact h
theorem owns_f (l : List S64) (hl : l.length ≤ 65536) : ∃ k, parcloselaw23_owns.f k l = some (l.map toE) := by
 have h := owns_ev l hl l.length 0 [] (by omega) (by simp)
 simp only [List.nil_append, List.drop_zero] at h
 exact h.rounds
theorem refs_ev (l : List S65) (hl : l.length ≤ 65536) : ∀ (n x : Nat) (acc : List S64), x + n = l.length → acc.length ≤ x → Ev (fun k => parcloselaw23_Refs.l0 k l acc (x : Int)) (acc ++ (l.drop x).map toR) := by
 intro n
 induction n with
 | zero =>
  intro x acc hx ha
  refine Ev.step (f := fun _ => some acc) (fun k => by simp only [parcloselaw23_Refs.l0]; rw [if_neg (by omega)]) ?_
  rw [List.drop_of_length_le (by omega)]
  simp only [List.map_nil, List.append_nil]
  exact Ev.now _
 | succ n ih =>
  intro x acc hx ha
  refine Ev.step (f := fun k => parcloselaw23_Refs.l0 k l (acc ++ [toR (l.getD x z65)]) ((x + 1 : Nat) : Int)) (fun k => by
   simp only [parcloselaw23_Refs.l0]
   rw [if_pos (by omega), if_pos (by omega), if_pos (by omega), show wrap64 ((x : Int) + 1) = ((x + 1 : Nat) : Int) by unfold wrap64; omega]
   rfl) ?_
  have h := ih (x + 1) (acc ++ [toR (l.getD x z65)]) (by omega) (by simp; omega)
  rw [List.append_assoc] at h
  have e : l.drop x = l.getD x z65 :: l.drop (x + 1) := by rw [getD_lt l z65 (by omega)]; exact List.drop_eq_getElem_cons (by omega)
  rw [e, List.map_cons]
  exact h
theorem refs_f (l : List S65) (hl : l.length ≤ 65536) : ∃ k, parcloselaw23_Refs.f k l = some (l.map toR) := by
 have h := refs_ev l hl l.length 0 [] (by omega) (by simp)
 simp only [List.nil_append, List.drop_zero] at h
 exact h.rounds
theorem same_ev (a b : List S64) (hl : a.length = b.length) (ha : a.length ≤ 100000) : ∀ (n x : Nat), x + n = a.length → Ev (fun k => parcloseref23_Same.l0 k a b (x : Int)) (decide (a.drop x = b.drop x)) := by
 intro n
 induction n with
 | zero =>
  intro x hx
  rw [List.drop_of_length_le (by omega), List.drop_of_length_le (by omega)]
  refine Ev.step (f := fun _ => some true) (fun k => by simp only [parcloseref23_Same.l0]; rw [if_neg (by omega)]) ?_
  exact Ev.now _
 | succ n ih =>
  intro x hx
  have ea : a.drop x = a.getD x z64 :: a.drop (x + 1) := by rw [getD_lt a z64 (by omega)]; exact List.drop_eq_getElem_cons (by omega)
  have eb : b.drop x = b.getD x z64 :: b.drop (x + 1) := by rw [getD_lt b z64 (by omega)]; exact List.drop_eq_getElem_cons (by omega)
  have ra : rd_T64 a (x : Int) = a.getD x z64 := by unfold rd_T64; rw [Int.toNat_natCast]
  have rb : rd_T64 b (x : Int) = b.getD x z64 := by unfold rd_T64; rw [Int.toNat_natCast]
  by_cases he : a.getD x z64 = b.getD x z64
  ·have hd : decide (a.drop x = b.drop x) = decide (a.drop (x + 1) = b.drop (x + 1)) := by rw [ea, eb, he]; simp
   rw [hd]
   refine Ev.step (f := fun k => parcloseref23_Same.l0 k a b ((x + 1 : Nat) : Int)) (fun k => by
    simp only [parcloseref23_Same.l0]
    rw [if_pos (by omega), if_pos (by omega), if_pos (by omega), ra, rb, he, if_neg (by simp), show wrap64 ((x : Int) + 1) = ((x + 1 : Nat) : Int) by unfold wrap64; omega]) (ih (x + 1) (by omega))
  ·have hd : decide (a.drop x = b.drop x) = false := decide_eq_false (by rw [ea, eb]; intro h; exact he (List.cons.inj h).1)
   rw [hd]
   refine Ev.step (f := fun _ => some false) (fun k => by
    simp only [parcloseref23_Same.l0]
    rw [if_pos (by omega), if_pos (by omega), if_pos (by omega), ra, rb, if_pos]
    have h4 : ¬ ((a.getD x z64).f0 = (b.getD x z64).f0 ∧ (a.getD x z64).f1 = (b.getD x z64).f1 ∧ (a.getD x z64).f2 = (b.getD x z64).f2 ∧ (a.getD x z64).f3 = (b.getD x z64).f3) := by
     rintro ⟨h0, h1, h2, h3⟩
     apply he
     cases h5 : a.getD x z64
     cases h6 : b.getD x z64
     simp_all
    simp only [Bool.or_eq_true, Bool.not_eq_true', beq_eq_false_iff_ne, ne_eq]
    omega) (Ev.now _)
theorem same_f (a b : List S64) (ha : a.length ≤ 100000) : ∃ k, parcloseref23_Same.f k a b = some (decide (a = b)) := by
 unfold parcloseref23_Same.f
 by_cases h : a.length = b.length
 ·have h2 := same_ev a b h ha a.length 0 (by omega)
  simp only [List.drop_zero] at h2
  obtain ⟨k, hk⟩ := h2.rounds
  exact ⟨k, by rw [if_pos (by omega)]; exact hk⟩
 ·exact ⟨0, by rw [if_neg (by omega), decide_eq_false (fun e => h (by rw [e]))]⟩
def words : List ByteArray := [(⟨#[97, 99, 99, 101, 112, 116]⟩ : ByteArray), (⟨#[114, 101, 102, 117, 115, 101]⟩ : ByteArray), (⟨#[97, 115, 107]⟩ : ByteArray), (⟨#[114, 97, 110]⟩ : ByteArray), (⟨#[101, 110, 100, 101, 100]⟩ : ByteArray), (⟨#[111, 118, 101, 114]⟩ : ByteArray), (⟨#[109, 105, 115, 115, 101, 100]⟩ : ByteArray), (⟨#[114, 111, 115, 101]⟩ : ByteArray), (⟨#[100, 114, 111, 112, 112, 101, 100]⟩ : ByteArray), (⟨#[102, 101, 108, 108]⟩ : ByteArray), (⟨#[115, 101, 114, 118, 101, 100]⟩ : ByteArray), (⟨#[111, 112]⟩ : ByteArray), (⟨#[102, 97, 117, 108, 116]⟩ : ByteArray), (⟨#[111, 114, 100, 101, 114]⟩ : ByteArray), (⟨#[109, 97, 114, 107]⟩ : ByteArray)]
def wordOf (k : Int) : ByteArray := if 0 ≤ k ∧ k < 15 then words.getD k.toNat ⟨#[]⟩ else ⟨#[]⟩
set_option maxHeartbeats 4000000 in
set_option maxRecDepth 100000 in
theorem word_calls (k : Int) (w : World) : Calls Try.prog 34 #[.int .i64 k] w fun e w' => e = .returned (.string (wordOf k)) ∧ Below w.heap.size w w' := by
 have hu := Try.underlying114
 by_cases h0 : 0 ≤ k
 ·by_cases h1 : k < 15
  ·have d0 : decide (k < 0) = false := decide_eq_false (by omega)
   have d1 : decide (15 ≤ k) = false := decide_eq_false (by omega)
   have p0 : (0 ≤ k) = True := eq_true h0
   have p1 : (k < 15) = True := eq_true h1
   have e : wordOf k = words.getD k.toNat ⟨#[]⟩ := by unfold wordOf; rw [if_pos ⟨h0, h1⟩]
   have hc : (w.alloc (.cells (words.map Value.string).toArray 114)).cell? ⟨w.heap.size, k.toNat, none⟩ = some (.string (wordOf k)) := by
    rw [(blk_cell (heap_alloc_new w (.cells (words.map Value.string).toArray 114)) k.toNat), e, List.getElem?_toArray, List.getElem?_map]
    have hl : k.toNat < words.length := by show k.toNat < 15; omega
    rw [List.getElem?_eq_getElem hl, getD_lt words _ hl]
    rfl
   unfold words at hc
   simp only [List.map_cons, List.map_nil] at hc
   clear e h0 h1
   generalize wordOf k = r at hc ⊢
   go_enter Try.func34, Try.ntmps34
   go_wp2
   go_ret
   exact ⟨rfl, below_alloc (Below.refl _ _) _⟩
  ·have d0 : decide (k < 0) = false := decide_eq_false (by omega)
   have d1 : decide (15 ≤ k) = true := decide_eq_true (by omega)
   have e : wordOf k = ⟨#[]⟩ := by unfold wordOf; rw [if_neg (by omega)]
   rw [e]
   clear e h0 h1
   go_enter Try.func34, Try.ntmps34
   go_wp2
   go_ret
   exact ⟨rfl, below_alloc (Below.refl _ _) _⟩
 ·have d0 : decide (k < 0) = true := decide_eq_true (by omega)
  have e : wordOf k = ⟨#[]⟩ := by unfold wordOf; rw [if_neg (by omega)]
  rw [e]
  clear e h0
  go_enter Try.func34, Try.ntmps34
  go_wp2
  go_ret
  exact ⟨rfl, below_alloc (Below.refl _ _) _⟩
theorem C_two {w : World} {g t : Nat} (h : w.heap[g]? = some (.cells #[.int .i64 3, .int .i64 0, .int .i64 0, .int .i64 0, .int .i64 0, .int .i64 0, .int .i64 0, .int .i64 0] t (0, 0))) : k65.C w (some ⟨g, 0, none⟩) [(⟨3, 0, 0, 0⟩ : S65), ⟨0, 0, 0, 0⟩].length [(⟨3, 0, 0, 0⟩ : S65), ⟨0, 0, 0, 0⟩] := by
 refine ⟨rfl, by simp, fun _ => ⟨_, rfl, ?_⟩⟩
 intro j p hp
 match j with
 | 0 =>
  cases hp
  refine ⟨[.int .i64 3, .int .i64 0, .int .i64 0, .int .i64 0], rfl, k65_mk w ⟨3, 0, 0, 0⟩, fun i u hu => ?_⟩
  rw [add_at, blk_cell h]
  match i with
  | 0 => exact hu
  | 1 => exact hu
  | 2 => exact hu
  | 3 => exact hu
  | i + 4 => exact absurd hu (by simp)
 | 1 =>
  cases hp
  refine ⟨[.int .i64 0, .int .i64 0, .int .i64 0, .int .i64 0], rfl, k65_mk w ⟨0, 0, 0, 0⟩, fun i u hu => ?_⟩
  rw [add_at, blk_cell h]
  match i with
  | 0 => exact hu
  | 1 => exact hu
  | 2 => exact hu
  | 3 => exact hu
  | i + 4 => exact absurd hu (by simp)
set_option maxHeartbeats 4000000 in
set_option maxRecDepth 100000 in
theorem knows_calls (w : World) : Calls Try.prog 14 #[] w fun e w' => e = .returned (.bool true) ∧ Below w.heap.size w w' := by
 have hu := Try.underlying65
 have WD : Aside0 (∀ w, Calls Try.prog 34 #[.int .i64 3] w fun e w' => e = .returned (.string ⟨#[114, 97, 110]⟩) ∧ Below w.heap.size w w') := ⟨word_calls 3⟩
 go_enter Try.func14, Try.ntmps14
 go_wp2_with fail
 refine (jnew_calls 1 w).mono ?_
 rintro e w1 ⟨rfl, hi, hb⟩
 have HI := asd hi
 have HB := asd hb
 have XB := asd (heap_alloc_new w1 (.cells #[Value.int .i64 3, .int .i64 0, .int .i64 0, .int .i64 0, .int .i64 0, .int .i64 0, .int .i64 0, .int .i64 0] 65))
 have HI1 := asd (hi.below (below_alloc (Below.refl _ _) (.cells #[Value.int .i64 3, .int .i64 0, .int .i64 0, .int .i64 0, .int .i64 0, .int .i64 0, .int .i64 0, .int .i64 0] 65)))
 have HB1 := asd (below_alloc hb (.cells #[Value.int .i64 3, .int .i64 0, .int .i64 0, .int .i64 0, .int .i64 0, .int .i64 0, .int .i64 0, .int .i64 0] 65))
 have ADD := asd (add_calls (room := 1) (lost := 0) (d := 2) _ HI1.out (C_two XB.out) (by decide) (by decide) (by decide) (by decide) (by decide) (by decide))
 clear hi hb
 go_wp2_with fail
 refine ADD.out.mono ?_
 rintro e w2 ⟨A', c', rfl, hi2, hc, _⟩
 have HI2 : Aside0 (IsLog w2 w.heap.size w.heap.size A' c' [(⟨3, 0, 0, 0⟩ : S65)] 1 1) := ⟨hi2⟩
 have HB2 := asd (HB1.out.trans (hc.to_below HI1.out.low (below_size HB1.out)))
 have ALL := asd (all_calls w2 HI2.out (by decide))
 clear hi2 hc ADD HI HI1 HB HB1 XB
 go_wp2_with fail
 refine ALL.out.mono ?_
 rintro e w3 ⟨v, rfl, ho, hb⟩
 have HI3 := asd (HI2.out.below hb)
 have HB3 := asd (below_step HB2.out hb)
 obtain ⟨A3, c3, rfl⟩ := Kd.R_slice ho
 have HC3 := asd (C_ofR ho)
 obtain ⟨ad, rfl, y0, _⟩ := at_T65 HC3.out 0 (by decide) (by decide)
 obtain ⟨g3, rfl⟩ := Kd.R_head ho
 have y0' : w3.cell? ⟨g3, 0, none⟩ = some (.int .i64 3) := by have h := y0; rw [add_plain] at h; exact h
 clear ho hb ALL y0
 go_wp2_with (first | (go_at_call 21; refine (lost_calls _ HI3.out).mono ?_; rintro e w4 ⟨rfl, rfl⟩) | (go_at_call 20; refine (len_calls _ HI3.out).mono ?_; rintro e w4 ⟨rfl, rfl⟩) | (go_at_call 34; refine (WD.out _).mono ?_; rintro e w4 ⟨rfl, hb⟩; have HB4 := asd (below_step HB3.out hb); clear hb))
 go_ret
 exact ⟨rfl, HB4.out⟩
end Go.Proofs.Ytalimpniimgheaa.Fn
namespace Go.Proofs.Ytalimpniimgheaa.Fn
open Go.RowKit Go.Proofs.YtalimpniimgheaaW.PrintWords Go.Proofs.YtalimpniimgheaaW.PrintLast Go.Proofs.YtalimpniimgheaaW.PrintMore
set_option linter.unusedVariables false
set_option linter.unusedSimpArgs false
attribute [local go_sem] max2_mx min2_mn max_two min_two
def jp10T : Bool × List (List Nat × List Nat) := (true, [([], []), ([], []), ([], []), ([1, 2], [1, 2]), ([3], [3]), ([4], [4]), ([0, 5, 5], [0, 5]), ([], []), ([], []), ([], []), ([8, 9], [8, 9]), ([10], [10]), ([7, 11, 6], [7, 11]), ([6, 12], [6, 12]), ([13, 12], [13]), ([14], [14]), ([15, 14, 14], [14, 15]), ([14], [14]), ([17, 14], [14, 17]), ([18, 14], [14, 18]), ([19, 14], [14, 19]), ([20, 14], [14, 20]), ([16, 21, 14], [14, 16, 21]), ([14, 22], [14, 22]), ([23, 16], [23]), ([24], [24]), ([25, 24, 24], [24, 25]), ([24], [24]), ([27, 24], [24, 27]), ([28, 24], [24, 28]), ([29, 24], [24, 29]), ([26, 30, 24], [24, 26, 30]), ([24, 31], [24, 31])])
def jp10B : List Nat := [0, 0, 0, 6, 14, 30, 63, 0, 0, 0, 768, 1792, 4095, 8191, 16383, 32767, 65535, 32767, 163839, 425983, 950271, 1998847, 4194303, 8388607, 16777215, 33554431, 67108863, 33554431, 167772159, 436207615, 973078527, 2147483647, 4294967295]
theorem jp10_tab : rtab .any (opsOf Try.f3 10) = jp10T := by kernel_rfl
theorem jp10_bits : waitsOk jp10T.2 jp10B = true := by kernel_rfl
def jp12T : Bool × List (List Nat × List Nat) := (true, [([], []), ([0], [0]), ([1, 1], [1]), ([], []), ([3], [3]), ([4], [4]), ([5], [5]), ([2, 6, 2], [2, 6]), ([7, 7], [7]), ([8], [8]), ([8], [8]), ([9, 10, 8, 8], [8, 9, 10]), ([11, 11, 8], [8, 11]), ([8], [8]), ([8], [8]), ([13, 14, 12, 8], [8, 13, 14]), ([12, 15, 15, 8], [8, 12, 15]), ([8, 16], [8, 16]), ([17, 16, 0, 1, 2, 3, 4, 5, 6, 7, 8, 9, 10, 11, 12, 13, 14, 15, 16, 17], [17])])
def jp12B : List Nat := [0, 1, 3, 0, 8, 24, 56, 127, 255, 511, 511, 2047, 4095, 511, 511, 32767, 65535, 131071, 262143]
theorem jp12_tab : rtab .any (opsOf Try.f3 12) = jp12T := by kernel_rfl
theorem jp12_bits : waitsOk jp12T.2 jp12B = true := by kernel_rfl
theorem twoL_ {P : Program} {ops : Array Oper} {Q : Exit → Act → World → Prop} {md : Region.Mode} {S : World → Prop} {ds : List Nat} {i j : Nat} {Ni Nj : Option Tmp} {oi oj : Oper} {fuel : Nat} {l : Array Bool} {a : Act} {w : World} (li lj : Array Bool) (hi : ops[i]? = some oi) (hj : ops[j]? = some oj) (hNi : oi.dst = Ni) (hNj : oj.dst = Nj)
  (hc : (Region.ready md ops l == [i, j] && l.setIfInBounds i true == li && l.setIfInBounds j true == lj) = true) (hdi : i ∈ ds) (hdj : j ∈ ds)
  (h1 : ∀ K : Act → World → Prop, Shut (∀ a' w', wpAnyLast P md ops Q S ds fuel li a' w' → K a' w') → if Region.wanted oi (yielded ops a.tmps) = true then Oper.wp P oi a w K Q else K (a.put Ni undef) w)
  (h2 : ∀ K : Act → World → Prop, Shut (∀ a' w', wpAnyLast P md ops Q S ds fuel lj a' w' → K a' w') → if Region.wanted oj (yielded ops a.tmps) = true then Oper.wp P oj a w K Q else K (a.put Nj undef) w) :
  wpAnyLast P md ops Q S ds (fuel + 1) l a w := by
 subst hNi
 subst hNj
 simp only [Bool.and_eq_true, beq_iff_eq] at hc
 obtain ⟨⟨h3, h4⟩, h5⟩ := hc
 subst h4
 subst h5
 exact wpAnyLast_ready h3 (by simp) (AllReadyL.cons_last hi hdi (fun K hK => h1 K hK) (AllReadyL.cons_last hj hdj (fun K hK => h2 K hK) AllReadyL.nil))
theorem refKinds_le (ks : List Int) (ys : List S64) : (refKinds ks ys).length ≤ ys.length := List.length_filter_le _ _
theorem of_ref (ks : List Int) (ys : List S64) : ofKinds ks (ys.map toE) = (refKinds ks ys).map toE := by
 unfold ofKinds refKinds
 rw [List.filter_map]
 congr 1
 congr 1
 funext x
 show (ks.any fun y => decide (x.f1 = y)) = ks.any fun y => decide (y = x.f1)
 congr 1
 funext y
 exact decide_eq_decide.2 eq_comm
section
variable {base g : Nat} {A : Option Addr} {c : Nat} {ys es : List S64} {lost : Int} {E : Option Addr} {d : Nat} {room : Nat}
theorem ladd (w : World) (h : IsLog w base g A c (ys.map toE) room lost) (he : k65.C w E (es.map toE).length (es.map toE)) (hr : room ≤ 65536) (hx : ys.length ≤ room) (hl : es.length ≤ 1000) (h0 : 0 ≤ lost) (h9 : lost ≤ 100000) (hd : (es.map toE).length ≤ d) :
  Calls Try.prog 17 #[.pointer (some ⟨g, 0, none⟩), .slice E (es.map toE).length d] w fun e w' => ∃ A' c', e = .returned (.int .i64 (min es.length (room - ys.length) : Nat)) ∧ IsLog w' base g A' c' ((ys ++ es.take (min es.length (room - ys.length))).map toE) room (lost + (es.length - min es.length (room - ys.length) : Nat)) ∧ Chg (rowS g A) w w' ∧ (∀ k, rowS g A' k → rowS g A k ∨ w.heap.size ≤ k) := by
 refine (add_calls w h he hr (by rw [List.length_map]; exact hx) (by rw [List.length_map]; exact hl) h0 h9 hd).mono ?_
 rintro e w' ⟨A', c', rfl, h1, h2, h3⟩
 rw [List.length_map, List.length_map] at h1 ⊢
 refine ⟨A', c', rfl, ?_, h2, h3⟩
 rw [List.map_append, List.map_take]
 exact h1
end
theorem refs_calls {E : Option Addr} {c : Nat} (w : World) (ys : List S64) (h : k65.C w E (ys.map toE).length (ys.map toE)) (hc : (ys.map toE).length ≤ c) (hl : ys.length ≤ 65536) :
  Calls Try.prog 23 #[.slice E (ys.map toE).length c] w fun e w' => ∃ v, e = .returned v ∧ Kd.R k64 64 w' w.heap.size (fun _ => True) v ys ∧ Below w.heap.size w w' := by
 obtain ⟨k, hk⟩ := refs_f (ys.map toE) (by rw [List.length_map]; exact hl)
 rw [map_RE] at hk
 exact parcloselaw23_Refs.calls k E c (ys.map toE) ys w h hc hk
theorem same_calls {E E' : Option Addr} {c c' : Nat} (w : World) (a b : List S64) (h1 : k64.C w E a.length a) (h2 : a.length ≤ c) (h3 : k64.C w E' b.length b) (h4 : b.length ≤ c') (h5 : a.length ≤ 65536) :
  Calls Try.prog 22 #[.slice E a.length c, .slice E' b.length c'] w fun e w' => e = .returned (.bool (decide (a = b))) ∧ Drawn0 w w' := by
 obtain ⟨k, hk⟩ := same_f a b (by omega)
 exact parcloseref23_Same.calls k E c a E' c' b _ w h1 h2 h3 h4 hk
theorem FZ {ys es zs : List S64} {room M : Nat} {lost lq : Int} (h : min es.length (room - ys.length) = M ∧ ys ++ es.take M = zs ∧ lost + ((es.length - M : Nat) : Int) = lq) (hx : ys.length ≤ room) (hl : es.length ≤ 1000) : zs.length ≤ room := by
 obtain ⟨h1, rfl, _⟩ := h
 rw [List.length_append, List.length_take]
 omega
theorem FQ {ys es zs : List S64} {room M i : Nat} {lost lq : Int} (h : min es.length (room - ys.length) = M ∧ ys ++ es.take M = zs ∧ lost + ((es.length - M : Nat) : Int) = lq) (hl : es.length ≤ 1000) (h0 : 0 ≤ lost) (h9 : lost ≤ 1000 * i) : 0 ≤ lq ∧ lq ≤ 1000 * ((i + 1 : Nat) : Int) := by
 obtain ⟨h1, _, h3⟩ := h
 omega
section
variable (r : Int) (A : Option Addr) (c : Nat) (l : List (List S64)) (KK : Option Addr) (dk : Nat) (ks : List Int)
set_option maxHeartbeats 4000000 in
set_option maxRecDepth 100000 in
theorem jplays_dark (w : World) (hn : ¬ (l.length ≤ 40 ∧ ks.length ≤ 20)) :
  Calls Try.prog 3 #[.int .i64 r, .slice A l.length c, .slice KK ks.length dk] w fun e w' => e = .returned (.bool true) ∧ Below w.heap.size w w' := by
 by_cases h1 : 40 < (l.length : Int)
 ·have d1 : decide (40 < (l.length : Int)) = true := decide_eq_true h1
  clear hn h1
  go_enter Try.func3, Try.ntmps3
  go_wp2_with (first | (go_at_call 14; refine (knows_calls _).mono ?_; rintro e w7 ⟨rfl, hb⟩; have HB2 := asd hb; clear hb))
  go_ret
  exact ⟨rfl, HB2.out⟩
 ·have d1 : decide (40 < (l.length : Int)) = false := decide_eq_false h1
  have d2 : decide (20 < (ks.length : Int)) = true := decide_eq_true (by omega)
  clear hn h1
  go_enter Try.func3, Try.ntmps3
  go_wp2_with (first | (go_at_call 14; refine (knows_calls _).mono ?_; rintro e w7 ⟨rfl, hb⟩; have HB2 := asd hb; clear hb))
  go_ret
  exact ⟨rfl, HB2.out⟩
set_option maxHeartbeats 32000000 in
set_option maxRecDepth 100000 in
theorem jplays_light (w : World) (h : Kd.C (Kd.slice 64 k64) w A l.length l) (hk : (Kd.int .i64).C w KK ks.length ks) (hn : l.length ≤ 40) (hm : ks.length ≤ 20) :
  Calls Try.prog 3 #[.int .i64 r, .slice A l.length c, .slice KK ks.length dk] w fun e w' => e = .returned (.bool true) ∧ Below w.heap.size w w' := by
 have hu36 := Try.underlying36
 have HC := asd h
 have HK := asd hk
 have HN := asd hn
 have HKL := asd hm
 have d1 : decide (40 < (l.length : Int)) = false := decide_eq_false (by omega)
 have d2 : decide (20 < (ks.length : Int)) = false := decide_eq_false (by omega)
 clear h hk hn hm
 go_enter Try.func3, Try.ntmps3
 go_wp2_with fail
 refine (knows_calls _).mono ?_
 rintro e w1 ⟨rfl, hb⟩
 have HB1 := asd hb
 clear hb
 go_wp2_with fail
 refine (jnew_calls r w1).mono ?_
 rintro e w2 ⟨rfl, hi, hb⟩
 have HB2 := asd (below_step HB1.out hb)
 have HL2 := asd hi
 have LE := asd (below_size HB1.out)
 clear hi hb
 go_wp2_with fail
 refine (rnew_calls r w2).mono ?_
 rintro e w3 ⟨rfl, hi, hb⟩
 have HB3 := asd (below_step HB2.out hb)
 obtain ⟨room, hroom⟩ : ∃ room : Nat, roomOf r = (room : Int) := ⟨(roomOf r).toNat, by have := (roomOf_bd r).1; omega⟩
 have RB : Aside0 (room ≤ 65536) := ⟨by have := (roomOf_bd r).2; omega⟩
 have HL3 : Aside0 (IsLog w3 w.heap.size w1.heap.size none 0 (([] : List S64).map toE) room 0) := ⟨by have h2 := HL2.out.below hb; rw [hroom] at h2; exact ⟨h2.1, LE.out, Kd.R_lower h2.2.2 LE.out⟩⟩
 have HR3 : Aside0 (IsRef w3 w.heap.size w2.heap.size none 0 [] room 0) := ⟨by rw [hroom] at hi; exact ⟨hi.1, below_size HB2.out, Kd.R_lower hi.2.2 (below_size HB2.out)⟩⟩
 generalize w1.heap.size = g at HL3
 generalize w2.heap.size = g2 at HR3
 clear hi hb HB1 HB2 HL2 LE hroom
 go_wp2
 go_loopw [9] (fun v9 wr => ∃ (i : Nat) (lost : Int) (ys : List S64) (A1 : Option Addr) (c1 : Nat) (B2 : Option Addr) (d2 : Nat), v9 = .int .i64 i ∧ Aside0 (i ≤ l.length ∧ ys.length ≤ room ∧ 0 ≤ lost ∧ lost ≤ 1000 * (i : Int)) ∧ Aside0 (IsLog wr w.heap.size g A1 c1 (ys.map toE) room lost) ∧ Aside0 (IsRef wr w.heap.size g2 B2 d2 ys room lost) ∧ Aside0 (Below w.heap.size w wr)) (fun v _ => l.length - (intOf v).toNat)
 case atStart => exact ⟨0, 0, [], none, 0, none, 0, rfl, ⟨by simp⟩, HL3, HR3, HB3⟩
 case round =>
  clear HL3 HR3 HB3
  obtain ⟨i, lost, ys, A1, c1, B2, d2, rfl, HX, HL, HR, HB⟩ := hrel
  have h99 : (l.length : Int) ≤ 40 := by have := HN.out; omega
  by_cases hlt : i < l.length
  ·have hi : (i : Int) < (l.length : Int) := by omega
   have q0 : ((i : Int) < (l.length : Int)) = True := eq_true hi
   have q1 : decide ((i : Int) < (l.length : Int)) = true := decide_eq_true hi
   have q2 : decide (i < l.length) = true := decide_eq_true hlt
   obtain ⟨ad, E, de, rfl, hxw, hle, hEw⟩ := at_L7 HC.out (i : Int) (by omega) hi
   simp only [Int.toNat_natCast] at hxw
   generalize rd_L7 l (i : Int) = es at hxw hle hEw
   have CLF := asd (fun wz (hbz : Below w.heap.size w wz) => pw_cell_below hbz hxw)
   have HE := asd hEw
   have hx0 := CLF.out wr HB.out
   clear hxw hEw
   by_cases h40 : 40 < (es.length : Int)
   ·have d3 : decide (40 < (es.length : Int)) = true := decide_eq_true h40
    clear h40
    go_wp2
    go_ret
    exact ⟨rfl, HB.out⟩
   have d3 : decide (40 < (es.length : Int)) = false := decide_eq_false h40
   have HRM : Aside0 (room ≤ 65536 ∧ ys.length ≤ room ∧ es.length ≤ 1000 ∧ 0 ≤ lost ∧ lost ≤ 100000) := ⟨by have := RB.out; have := HX.out; have := HN.out; omega⟩
   obtain ⟨kq, hkq⟩ := owns_f es (by have := HRM.out; omega)
   have OW := asd (fun wz (hbz : Below w.heap.size w wz) => parcloselaw23_owns.calls kq E de es (es.map toE) wz (Kd.C_below HE.out hbz) hle hkq)
   clear hkq h40
   go_wp2
   refine start_ (n := 33) (S := fun w' => w'.cell? (ad.add i) = some (.slice E es.length de)) (ds := [12, 16, 20, 26, 30]) #[false, false, false, false, false, false, false, false, false, false, false, false, false, false, false, false, false, false, false, false, false, false, false, false, false, false, false, false, false, false, false, false, false] (by kernel_rfl) rfl rfl hx0 (fun hHeld => ?_); refine with_tabW jp10_tab jp10_bits (fun HT_ HW_ => ?_)
   have HL6 := asd (HL.out.below (below_drew1 (Below.refl _ _)))
   have HR6 := asd (HR.out.below (below_drew1 (Below.refl _ _)))
   have HB6 := asd (below_drew HB.out)
   clear HL HR HB hx0
   generalize wr.drew = w25 at HL6 HR6 HB6 hHeld ⊢
   refine pure_ (i := 0) (N := (some 39)) (v := ?_) (a' := ?_) #[true, false, false, false, false, false, false, false, false, false, false, false, false, false, false, false, false, false, false, false, false, false, false, false, false, false, false, false, false, false, false, false, false] rfl rfl (any_of HT_.out (by kernel_rfl)) (fun _ _ _ h => h) (Or.inl ⟨by rfl, ?_⟩) ?_ ?_
   rotate_left
   ·intro w'
    go_simp
    with_reducible rfl
   rotate_left
   ·simp only [Act.put, sB, i64_w, i32_w]
    rfl
   refine pure_ (i := 1) (N := (some 40)) (v := ?_) (a' := ?_) #[true, true, false, false, false, false, false, false, false, false, false, false, false, false, false, false, false, false, false, false, false, false, false, false, false, false, false, false, false, false, false, false, false] rfl rfl (any_of HT_.out (by kernel_rfl)) (fun _ _ _ h => h) (Or.inl ⟨by rfl, ?_⟩) ?_ ?_
   rotate_left
   ·intro w'
    go_simp
    with_reducible rfl
   rotate_left
   ·simp only [Act.put, sB, i64_w, i32_w]
    rfl
   refine pure_ (i := 2) (N := (some 41)) (v := ?_) (a' := ?_) #[true, true, true, false, false, false, false, false, false, false, false, false, false, false, false, false, false, false, false, false, false, false, false, false, false, false, false, false, false, false, false, false, false] rfl rfl (any_of HT_.out (by kernel_rfl)) (fun _ _ _ h => h) (Or.inl ⟨by rfl, ?_⟩) ?_ ?_
   rotate_left
   ·intro w'
    go_simp
    with_reducible rfl
   rotate_left
   ·simp only [Act.put, sB, i64_w, i32_w]
    rfl
   refine pure_ (i := 3) (N := (some 42)) (v := ?_) (a' := ?_) #[true, true, true, true, false, false, false, false, false, false, false, false, false, false, false, false, false, false, false, false, false, false, false, false, false, false, false, false, false, false, false, false, false] rfl rfl (any_of HT_.out (by kernel_rfl)) (fun _ _ _ h => h) (Or.inl ⟨by rfl, ?_⟩) ?_ ?_
   rotate_left
   ·intro w'
    go_simp
    with_reducible rfl
   rotate_left
   ·simp only [Act.put, sB, i64_w, i32_w]
    rfl
   refine take_ (i := 4) (N := (some 43)) (v := ?_) (a' := ?_) #[true, true, true, true, true, false, false, false, false, false, false, false, false, false, false, false, false, false, false, false, false, false, false, false, false, false, false, false, false, false, false, false, false] rfl rfl (take_ofW HT_.out HW_.out (by kernel_rfl)) (fun _ _ _ h => h) (Or.inl ⟨by rfl, ?_⟩) hHeld ?_ ?_
   rotate_left
   ·rintro w' s0
    go_simp
    with_reducible rfl
   rotate_left
   ·simp only [Act.put, sB, i64_w, i32_w]
    rfl
   refine pure_ (i := 7) (N := (some 46)) (v := ?_) (a' := ?_) #[true, true, true, true, true, false, false, true, false, false, false, false, false, false, false, false, false, false, false, false, false, false, false, false, false, false, false, false, false, false, false, false, false] rfl rfl (any_of HT_.out (by kernel_rfl)) (fun _ _ _ h => h) (Or.inl ⟨by rfl, ?_⟩) ?_ ?_
   rotate_left
   ·intro w'
    go_simp
    with_reducible rfl
   rotate_left
   ·simp only [Act.put, sB, i64_w, i32_w]
    rfl
   refine pure_ (i := 8) (N := (some 47)) (v := ?_) (a' := ?_) #[true, true, true, true, true, false, false, true, true, false, false, false, false, false, false, false, false, false, false, false, false, false, false, false, false, false, false, false, false, false, false, false, false] rfl rfl (any_of HT_.out (by kernel_rfl)) (fun _ _ _ h => h) (Or.inl ⟨by rfl, ?_⟩) ?_ ?_
   rotate_left
   ·intro w'
    go_simp
    with_reducible rfl
   rotate_left
   ·simp only [Act.put, sB, i64_w, i32_w]
    rfl
   refine pure_ (i := 9) (N := (some 48)) (v := ?_) (a' := ?_) #[true, true, true, true, true, false, false, true, true, true, false, false, false, false, false, false, false, false, false, false, false, false, false, false, false, false, false, false, false, false, false, false, false] rfl rfl (any_of HT_.out (by kernel_rfl)) (fun _ _ _ h => h) (Or.inl ⟨by rfl, ?_⟩) ?_ ?_
   rotate_left
   ·intro w'
    go_simp
    with_reducible rfl
   rotate_left
   ·simp only [Act.put, sB, i64_w, i32_w]
    rfl
   refine pure_ (i := 10) (N := (some 49)) (v := ?_) (a' := ?_) #[true, true, true, true, true, false, false, true, true, true, true, false, false, false, false, false, false, false, false, false, false, false, false, false, false, false, false, false, false, false, false, false, false] rfl rfl (any_of HT_.out (by kernel_rfl)) (fun _ _ _ h => h) (Or.inl ⟨by rfl, ?_⟩) ?_ ?_
   rotate_left
   ·intro w'
    go_simp
    with_reducible rfl
   rotate_left
   ·simp only [Act.put, sB, i64_w, i32_w]
    rfl
   refine take_ (i := 11) (N := (some 50)) (v := ?_) (a' := ?_) #[true, true, true, true, true, false, false, true, true, true, true, true, false, false, false, false, false, false, false, false, false, false, false, false, false, false, false, false, false, false, false, false, false] rfl rfl (take_ofW HT_.out HW_.out (by kernel_rfl)) (fun _ _ _ h => h) (Or.inl ⟨by rfl, ?_⟩) hHeld ?_ ?_
   rotate_left
   ·rintro w' s0
    go_simp
    with_reducible rfl
   rotate_left
   ·simp only [Act.put, sB, i64_w, i32_w]
    rfl
   refine one_ (i := 5) (N := (some 44)) #[true, true, true, true, true, true, false, true, true, true, true, true, false, false, false, false, false, false, false, false, false, false, false, false, false, false, false, false, false, false, false, false, false] rfl rfl (one_of HT_.out (by kernel_rfl)) (by decide) (fun K hK => ?_)
   refine goes_ Try.func18 (by kernel_rfl) rfl #[.slice E es.length de] (by rfl) rfl rfl (by simp [Act.eval]) ?_
   refine (OW.out w25 HB6.out).mono ?_
   rintro e w26 ⟨ve, rfl, ho, hb⟩
   have HL7 := asd (HL6.out.below hb)
   have HR7 := asd (HR6.out.below hb)
   have HB7 := asd (below_step HB6.out hb)
   obtain ⟨E2, d2, rfl⟩ := Kd.R_slice ho
   have HE2 := asd (C_ofR ho)
   have HD2 := asd (Kd.R_reads' ho).2.1
   have CL7 := asd (CLF.out w26 HB7.out)
   clear ho hb
   refine ⟨_, rfl, ?_⟩
   refine hK.out _ _ CL7.out (fun hHeld => ?_)
   clear hK K
   refine norm_ (a' := ?_) ?_ ?_
   rotate_left
   ·show Act.put _ (some 44) _ = _
    simp only [Act.put, sB, i64_w, i32_w]
    rfl
   refine one_ (i := 6) (N := (some 45)) #[true, true, true, true, true, true, true, true, true, true, true, true, false, false, false, false, false, false, false, false, false, false, false, false, false, false, false, false, false, false, false, false, false] rfl rfl (one_of HT_.out (by kernel_rfl)) (by decide) (fun K hK => ?_)
   refine goes_ Try.func17 (by kernel_rfl) rfl #[.pointer (some ⟨g, 0, none⟩), .slice E2 (es.map toE).length d2] (by rfl) rfl rfl (by simp [Act.eval]) ?_
   refine (ladd (ys := ys) (es := es) w26 HL7.out HE2.out HRM.out.1 HRM.out.2.1 HRM.out.2.2.1 HRM.out.2.2.2.1 HRM.out.2.2.2.2 HD2.out).mono ?_
   rintro e w27 ⟨A9, c9, rfl, hi, hc, _⟩
   have HR8 := asd (HR7.out.chg hc HL7.out.types)
   have HB8 := asd (HB7.out.trans (hc.to_below HL7.out.low (below_size HB7.out)))
   have HL8 := asd hi
   have CL8 := asd (CLF.out w27 HB8.out)
   clear hi hc HL7 HR7 HB7 CL7 HE2
   refine ⟨_, rfl, ?_⟩
   refine hK.out _ _ CL8.out (fun hHeld => ?_)
   clear hK K
   refine norm_ (a' := ?_) ?_ ?_
   rotate_left
   ·show Act.put _ (some 45) _ = _
    simp only [Act.put, sB, i64_w, i32_w]
    rfl
   refine last_ (i := 12) (N := (some 51)) #[true, true, true, true, true, true, true, true, true, true, true, true, true, false, false, false, false, false, false, false, false, false, false, false, false, false, false, false, false, false, false, false, false] rfl rfl (one_of HT_.out (by kernel_rfl)) (by decide) (fun K hK => ?_)
   refine goes_ Try.func19 (by kernel_rfl) rfl #[.pointer (some ⟨g2, 0, none⟩), .slice E es.length de] (by rfl) rfl rfl (by simp [Act.eval]) ?_
   refine (radd_calls (d := de) w w27 HR8.out HB8.out HE.out HRM.out.1 HRM.out.2.1 HRM.out.2.2.1 HRM.out.2.2.2.1 HRM.out.2.2.2.2).mono ?_
   rintro e w28 ⟨B9, d9, rfl, hi, hc, _⟩
   have HL9 := asd (HL8.out.chg hc HR8.out.types)
   have HB9 := asd (HB8.out.trans (hc.to_below HR8.out.low (below_size HB8.out)))
   have HR9 := asd hi
   clear hi hc HL8 HR8 HB8 CL8 hHeld
   generalize hM : min es.length (room - ys.length) = M at HL9 HR9 ⊢
   generalize hZ : ys ++ es.take M = zs at HL9 HR9
   generalize hQ : lost + ((es.length - M : Nat) : Int) = lq at HL9 HR9
   have HMZ := asd (And.intro hM (And.intro hZ hQ))
   clear hM hZ hQ
   have hr1 := (blk_cell HR9.out.1 1).trans rfl
   have hr2 := (blk_cell HR9.out.1 2).trans rfl
   refine ⟨_, rfl, ?_⟩
   refine hK.out _ _ ?_
   clear hK K
   refine norm_ (a' := ?_) ?_ ?_
   rotate_left
   ·show Act.put _ (some 51) _ = _
    simp only [Act.put, sB, i64_w, i32_w]
    rfl
   refine pure_ (i := 13) (N := (some 52)) (v := ?_) (a' := ?_) #[true, true, true, true, true, true, true, true, true, true, true, true, true, true, false, false, false, false, false, false, false, false, false, false, false, false, false, false, false, false, false, false, false] rfl rfl (any_of HT_.out (by kernel_rfl)) (fun _ _ _ h => h) (Or.inl ⟨by rfl, ?_⟩) ?_ ?_
   rotate_left
   ·intro w'
    go_simp
    with_reducible rfl
   rotate_left
   ·simp only [Act.put, sB, i64_w, i32_w]
    rfl
   refine pure_ (i := 14) (N := (some 53)) (v := ?_) (a' := ?_) #[true, true, true, true, true, true, true, true, true, true, true, true, true, true, true, false, false, false, false, false, false, false, false, false, false, false, false, false, false, false, false, false, false] rfl rfl (any_of HT_.out (by kernel_rfl)) (fun _ _ _ h => h) (Or.inl ⟨by rfl, ?_⟩) ?_ ?_
   rotate_left
   ·intro w'
    go_simp
    with_reducible rfl
   rotate_left
   ·simp only [Act.put, sB, i64_w, i32_w]
    rfl
   refine pure_ (i := 15) (N := (some 54)) (v := ?_) (a' := ?_) #[true, true, true, true, true, true, true, true, true, true, true, true, true, true, true, true, false, false, false, false, false, false, false, false, false, false, false, false, false, false, false, false, false] rfl rfl (any_of HT_.out (by kernel_rfl)) (fun _ _ _ h => h) (Or.inl ⟨by rfl, ?_⟩) ?_ ?_
   rotate_left
   ·intro w'
    go_simp
    with_reducible rfl
   rotate_left
   ·simp only [Act.put, sB, i64_w, i32_w]
    rfl
   refine pure_ (i := 17) (N := (some 56)) (v := ?_) (a' := ?_) #[true, true, true, true, true, true, true, true, true, true, true, true, true, true, true, true, false, true, false, false, false, false, false, false, false, false, false, false, false, false, false, false, false] rfl rfl (any_of HT_.out (by kernel_rfl)) (fun _ _ _ h => h) (Or.inl ⟨by rfl, ?_⟩) ?_ ?_
   rotate_left
   ·intro w'
    go_simp
    with_reducible rfl
   rotate_left
   ·simp only [Act.put, sB, i64_w, i32_w]
    rfl
   refine pure_ (i := 18) (N := (some 57)) (v := ?_) (a' := ?_) #[true, true, true, true, true, true, true, true, true, true, true, true, true, true, true, true, false, true, true, false, false, false, false, false, false, false, false, false, false, false, false, false, false] rfl rfl (any_of HT_.out (by kernel_rfl)) (fun _ _ _ h => h) (Or.inl ⟨by rfl, ?_⟩) ?_ ?_
   rotate_left
   ·intro w'
    go_simp
    with_reducible rfl
   rotate_left
   ·simp only [Act.put, sB, i64_w, i32_w]
    rfl
   refine pure_ (i := 19) (N := (some 58)) (v := ?_) (a' := ?_) #[true, true, true, true, true, true, true, true, true, true, true, true, true, true, true, true, false, true, true, true, false, false, false, false, false, false, false, false, false, false, false, false, false] rfl rfl (any_of HT_.out (by kernel_rfl)) (fun _ _ _ h => h) (Or.inl ⟨by rfl, ?_⟩) ?_ ?_
   rotate_left
   ·intro w'
    go_simp
    with_reducible rfl
   rotate_left
   ·simp only [Act.put, sB, i64_w, i32_w]
    rfl
   refine twoL_ (i := 16) (j := 20) (Ni := (some 55)) (Nj := (some 59)) #[true, true, true, true, true, true, true, true, true, true, true, true, true, true, true, true, true, true, true, true, false, false, false, false, false, false, false, false, false, false, false, false, false] #[true, true, true, true, true, true, true, true, true, true, true, true, true, true, true, true, false, true, true, true, true, false, false, false, false, false, false, false, false, false, false, false, false] rfl rfl rfl rfl (two_of HT_.out (by kernel_rfl)) (by decide) (by decide) (fun K hK => ?_) (fun K hK => ?_)
   ·refine goes_ Try.func20 (by kernel_rfl) rfl #[.pointer (some ⟨g, 0, none⟩)] (by rfl) rfl rfl (by simp [Act.eval]) ?_
    refine (len_calls w28 HL9.out).mono ?_
    rintro e w29 ⟨rfl, rfl⟩
    rw [List.length_map]
    refine ⟨_, rfl, ?_⟩
    refine hK.out _ _ ?_
    clear hK K
    refine norm_ (a' := ?_) ?_ ?_
    rotate_left
    ·show Act.put _ (some 55) _ = _
     simp only [Act.put, sB, i64_w, i32_w]
     rfl
    refine last_ (i := 20) (N := (some 59)) #[true, true, true, true, true, true, true, true, true, true, true, true, true, true, true, true, true, true, true, true, true, false, false, false, false, false, false, false, false, false, false, false, false] rfl rfl (one_of HT_.out (by kernel_rfl)) (by decide) (fun K hK => ?_)
    refine value_ (w1 := ?_) (v := ?_) (by rfl) rfl ?_ ?_
    rotate_left 2
    ·go_simp
     constructor
     ·rfl
     ·rfl
    refine hK.out _ _ ?_
    clear hK K
    refine norm_ (a' := ?_) ?_ ?_
    rotate_left
    ·show Act.put _ (some 59) _ = _
     simp only [Act.put, sB, i64_w, i32_w]
     rfl
    refine pure_ (i := 21) (N := (some 60)) (v := ?_) (a' := ?_) #[true, true, true, true, true, true, true, true, true, true, true, true, true, true, true, true, true, true, true, true, true, true, false, false, false, false, false, false, false, false, false, false, false] rfl rfl (any_of HT_.out (by kernel_rfl)) (fun _ _ _ h => h) (Or.inl ⟨by rfl, ?_⟩) ?_ ?_
    rotate_left
    ·intro w'
     go_simp
     with_reducible rfl
    rotate_left
    ·simp only [Act.put, sB, i64_w, i32_w]
     rfl
    refine pure_ (i := 22) (N := (some 61)) (v := ?_) (a' := ?_) #[true, true, true, true, true, true, true, true, true, true, true, true, true, true, true, true, true, true, true, true, true, true, true, false, false, false, false, false, false, false, false, false, false] rfl rfl (any_of HT_.out (by kernel_rfl)) (fun _ _ _ h => h) (Or.inl ⟨by rfl, ?_⟩) ?_ ?_
    rotate_left
    ·intro w'
     go_simp
     with_reducible rfl
    rotate_left
    ·simp only [Act.put, sB, i64_w, i32_w]
     rfl
    refine pure_ (i := 23) (N := (some 62)) (v := ?_) (a' := ?_) #[true, true, true, true, true, true, true, true, true, true, true, true, true, true, true, true, true, true, true, true, true, true, true, true, false, false, false, false, false, false, false, false, false] rfl rfl (any_of HT_.out (by kernel_rfl)) (fun _ _ _ h => h) (Or.inl ⟨by rfl, ?_⟩) ?_ ?_
    rotate_left
    ·intro w'
     go_simp
     with_reducible rfl
    rotate_left
    ·simp only [Act.put, sB, i64_w, i32_w]
     rfl
    refine pure_ (i := 24) (N := (some 63)) (v := ?_) (a' := ?_) #[true, true, true, true, true, true, true, true, true, true, true, true, true, true, true, true, true, true, true, true, true, true, true, true, true, false, false, false, false, false, false, false, false] rfl rfl (any_of HT_.out (by kernel_rfl)) (fun _ _ _ h => h) (Or.inl ⟨by rfl, ?_⟩) ?_ ?_
    rotate_left
    ·intro w'
     go_simp
     with_reducible rfl
    rotate_left
    ·simp only [Act.put, sB, i64_w, i32_w]
     rfl
    refine pure_ (i := 25) (N := (some 64)) (v := ?_) (a' := ?_) #[true, true, true, true, true, true, true, true, true, true, true, true, true, true, true, true, true, true, true, true, true, true, true, true, true, true, false, false, false, false, false, false, false] rfl rfl (any_of HT_.out (by kernel_rfl)) (fun _ _ _ h => h) (Or.inl ⟨by rfl, ?_⟩) ?_ ?_
    rotate_left
    ·intro w'
     go_simp
     with_reducible rfl
    rotate_left
    ·simp only [Act.put, sB, i64_w, i32_w]
     rfl
    refine pure_ (i := 27) (N := (some 66)) (v := ?_) (a' := ?_) #[true, true, true, true, true, true, true, true, true, true, true, true, true, true, true, true, true, true, true, true, true, true, true, true, true, true, false, true, false, false, false, false, false] rfl rfl (any_of HT_.out (by kernel_rfl)) (fun _ _ _ h => h) (Or.inl ⟨by rfl, ?_⟩) ?_ ?_
    rotate_left
    ·intro w'
     go_simp
     with_reducible rfl
    rotate_left
    ·simp only [Act.put, sB, i64_w, i32_w]
     rfl
    refine pure_ (i := 28) (N := (some 67)) (v := ?_) (a' := ?_) #[true, true, true, true, true, true, true, true, true, true, true, true, true, true, true, true, true, true, true, true, true, true, true, true, true, true, false, true, true, false, false, false, false] rfl rfl (any_of HT_.out (by kernel_rfl)) (fun _ _ _ h => h) (Or.inl ⟨by rfl, ?_⟩) ?_ ?_
    rotate_left
    ·intro w'
     go_simp
     with_reducible rfl
    rotate_left
    ·simp only [Act.put, sB, i64_w, i32_w]
     rfl
    refine pure_ (i := 29) (N := (some 68)) (v := ?_) (a' := ?_) #[true, true, true, true, true, true, true, true, true, true, true, true, true, true, true, true, true, true, true, true, true, true, true, true, true, true, false, true, true, true, false, false, false] rfl rfl (any_of HT_.out (by kernel_rfl)) (fun _ _ _ h => h) (Or.inl ⟨by rfl, ?_⟩) ?_ ?_
    rotate_left
    ·intro w'
     go_simp
     with_reducible rfl
    rotate_left
    ·simp only [Act.put, sB, i64_w, i32_w]
     rfl
    refine twoL_ (i := 26) (j := 30) (Ni := (some 65)) (Nj := (some 69)) #[true, true, true, true, true, true, true, true, true, true, true, true, true, true, true, true, true, true, true, true, true, true, true, true, true, true, true, true, true, true, false, false, false] #[true, true, true, true, true, true, true, true, true, true, true, true, true, true, true, true, true, true, true, true, true, true, true, true, true, true, false, true, true, true, true, false, false] rfl rfl rfl rfl (two_of HT_.out (by kernel_rfl)) (by decide) (by decide) (fun K hK => ?_) (fun K hK => ?_)
    ·refine goes_ Try.func21 (by kernel_rfl) rfl #[.pointer (some ⟨g, 0, none⟩)] (by rfl) rfl rfl (by simp [Act.eval]) ?_
     refine (lost_calls w28 HL9.out).mono ?_
     rintro e w29 ⟨rfl, rfl⟩
     refine ⟨_, rfl, ?_⟩
     refine hK.out _ _ ?_
     clear hK K
     refine norm_ (a' := ?_) ?_ ?_
     rotate_left
     ·show Act.put _ (some 65) _ = _
      simp only [Act.put, sB, i64_w, i32_w]
      rfl
     refine last_ (i := 30) (N := (some 69)) #[true, true, true, true, true, true, true, true, true, true, true, true, true, true, true, true, true, true, true, true, true, true, true, true, true, true, true, true, true, true, true, false, false] rfl rfl (one_of HT_.out (by kernel_rfl)) (by decide) (fun K hK => ?_)
     refine value_ (w1 := ?_) (v := ?_) (by rfl) rfl ?_ ?_
     rotate_left 2
     ·go_simp
      constructor
      ·rfl
      ·rfl
     refine hK.out _ _ ?_
     clear hK K
     refine norm_ (a' := ?_) ?_ ?_
     rotate_left
     ·show Act.put _ (some 69) _ = _
      simp only [Act.put, sB, i64_w, i32_w]
      rfl
     refine pure_ (i := 31) (N := (some 70)) (v := ?_) (a' := ?_) #[true, true, true, true, true, true, true, true, true, true, true, true, true, true, true, true, true, true, true, true, true, true, true, true, true, true, true, true, true, true, true, true, false] rfl rfl (any_of HT_.out (by kernel_rfl)) (fun _ _ _ h => h) (Or.inl ⟨by rfl, ?_⟩) ?_ ?_
     rotate_left
     ·intro w'
      go_simp
      with_reducible rfl
     rotate_left
     ·simp only [Act.put, sB, i64_w, i32_w]
      rfl
     refine pure_ (i := 32) (N := (some 71)) (v := ?_) (a' := ?_) #[true, true, true, true, true, true, true, true, true, true, true, true, true, true, true, true, true, true, true, true, true, true, true, true, true, true, true, true, true, true, true, true, true] rfl rfl (any_of HT_.out (by kernel_rfl)) (fun _ _ _ h => h) (Or.inl ⟨by rfl, ?_⟩) ?_ ?_
     rotate_left
     ·intro w'
      go_simp
      with_reducible rfl
     rotate_left
     ·simp only [Act.put, sB, i64_w, i32_w]
      rfl
     refine done_ (done_of HT_.out (by kernel_rfl)) ?_
     try go_wp2
     go_roundw
     case rel => exact ⟨i + 1, lq, zs, A9, c9, B9, d9, by go_num, ⟨by omega, FZ HMZ.out HRM.out.2.1 HRM.out.2.2.1, FQ HMZ.out HRM.out.2.2.1 HX.out.2.2.1 HX.out.2.2.2⟩, HL9, HR9, HB9⟩
     case measure => simp [intOf]; omega
    ·refine value_ (w1 := ?_) (v := ?_) (by rfl) rfl ?_ ?_
     rotate_left 2
     ·go_simp
      constructor
      ·rfl
      ·rfl
     refine hK.out _ _ ?_
     clear hK K
     refine norm_ (a' := ?_) ?_ ?_
     rotate_left
     ·show Act.put _ (some 69) _ = _
      simp only [Act.put, sB, i64_w, i32_w]
      rfl
     refine last_ (i := 26) (N := (some 65)) #[true, true, true, true, true, true, true, true, true, true, true, true, true, true, true, true, true, true, true, true, true, true, true, true, true, true, true, true, true, true, true, false, false] rfl rfl (one_of HT_.out (by kernel_rfl)) (by decide) (fun K hK => ?_)
     refine goes_ Try.func21 (by kernel_rfl) rfl #[.pointer (some ⟨g, 0, none⟩)] (by rfl) rfl rfl (by simp [Act.eval]) ?_
     refine (lost_calls w28 HL9.out).mono ?_
     rintro e w29 ⟨rfl, rfl⟩
     refine ⟨_, rfl, ?_⟩
     refine hK.out _ _ ?_
     clear hK K
     refine norm_ (a' := ?_) ?_ ?_
     rotate_left
     ·show Act.put _ (some 65) _ = _
      simp only [Act.put, sB, i64_w, i32_w]
      rfl
     refine pure_ (i := 31) (N := (some 70)) (v := ?_) (a' := ?_) #[true, true, true, true, true, true, true, true, true, true, true, true, true, true, true, true, true, true, true, true, true, true, true, true, true, true, true, true, true, true, true, true, false] rfl rfl (any_of HT_.out (by kernel_rfl)) (fun _ _ _ h => h) (Or.inl ⟨by rfl, ?_⟩) ?_ ?_
     rotate_left
     ·intro w'
      go_simp
      with_reducible rfl
     rotate_left
     ·simp only [Act.put, sB, i64_w, i32_w]
      rfl
     refine pure_ (i := 32) (N := (some 71)) (v := ?_) (a' := ?_) #[true, true, true, true, true, true, true, true, true, true, true, true, true, true, true, true, true, true, true, true, true, true, true, true, true, true, true, true, true, true, true, true, true] rfl rfl (any_of HT_.out (by kernel_rfl)) (fun _ _ _ h => h) (Or.inl ⟨by rfl, ?_⟩) ?_ ?_
     rotate_left
     ·intro w'
      go_simp
      with_reducible rfl
     rotate_left
     ·simp only [Act.put, sB, i64_w, i32_w]
      rfl
     refine done_ (done_of HT_.out (by kernel_rfl)) ?_
     try go_wp2
     go_roundw
     case rel => exact ⟨i + 1, lq, zs, A9, c9, B9, d9, by go_num, ⟨by omega, FZ HMZ.out HRM.out.2.1 HRM.out.2.2.1, FQ HMZ.out HRM.out.2.2.1 HX.out.2.2.1 HX.out.2.2.2⟩, HL9, HR9, HB9⟩
     case measure => simp [intOf]; omega
   ·refine value_ (w1 := ?_) (v := ?_) (by rfl) rfl ?_ ?_
    rotate_left 2
    ·go_simp
     constructor
     ·rfl
     ·rfl
    refine hK.out _ _ ?_
    clear hK K
    refine norm_ (a' := ?_) ?_ ?_
    rotate_left
    ·show Act.put _ (some 59) _ = _
     simp only [Act.put, sB, i64_w, i32_w]
     rfl
    refine pure_ (i := 21) (N := (some 60)) (v := ?_) (a' := ?_) #[true, true, true, true, true, true, true, true, true, true, true, true, true, true, true, true, false, true, true, true, true, true, false, false, false, false, false, false, false, false, false, false, false] rfl rfl (any_of HT_.out (by kernel_rfl)) (fun _ _ _ h => h) (Or.inl ⟨by rfl, ?_⟩) ?_ ?_
    rotate_left
    ·intro w'
     go_simp
     with_reducible rfl
    rotate_left
    ·simp only [Act.put, sB, i64_w, i32_w]
     rfl
    refine last_ (i := 16) (N := (some 55)) #[true, true, true, true, true, true, true, true, true, true, true, true, true, true, true, true, true, true, true, true, true, true, false, false, false, false, false, false, false, false, false, false, false] rfl rfl (one_of HT_.out (by kernel_rfl)) (by decide) (fun K hK => ?_)
    refine goes_ Try.func20 (by kernel_rfl) rfl #[.pointer (some ⟨g, 0, none⟩)] (by rfl) rfl rfl (by simp [Act.eval]) ?_
    refine (len_calls w28 HL9.out).mono ?_
    rintro e w29 ⟨rfl, rfl⟩
    rw [List.length_map]
    refine ⟨_, rfl, ?_⟩
    refine hK.out _ _ ?_
    clear hK K
    refine norm_ (a' := ?_) ?_ ?_
    rotate_left
    ·show Act.put _ (some 55) _ = _
     simp only [Act.put, sB, i64_w, i32_w]
     rfl
    refine pure_ (i := 22) (N := (some 61)) (v := ?_) (a' := ?_) #[true, true, true, true, true, true, true, true, true, true, true, true, true, true, true, true, true, true, true, true, true, true, true, false, false, false, false, false, false, false, false, false, false] rfl rfl (any_of HT_.out (by kernel_rfl)) (fun _ _ _ h => h) (Or.inl ⟨by rfl, ?_⟩) ?_ ?_
    rotate_left
    ·intro w'
     go_simp
     with_reducible rfl
    rotate_left
    ·simp only [Act.put, sB, i64_w, i32_w]
     rfl
    refine pure_ (i := 23) (N := (some 62)) (v := ?_) (a' := ?_) #[true, true, true, true, true, true, true, true, true, true, true, true, true, true, true, true, true, true, true, true, true, true, true, true, false, false, false, false, false, false, false, false, false] rfl rfl (any_of HT_.out (by kernel_rfl)) (fun _ _ _ h => h) (Or.inl ⟨by rfl, ?_⟩) ?_ ?_
    rotate_left
    ·intro w'
     go_simp
     with_reducible rfl
    rotate_left
    ·simp only [Act.put, sB, i64_w, i32_w]
     rfl
    refine pure_ (i := 24) (N := (some 63)) (v := ?_) (a' := ?_) #[true, true, true, true, true, true, true, true, true, true, true, true, true, true, true, true, true, true, true, true, true, true, true, true, true, false, false, false, false, false, false, false, false] rfl rfl (any_of HT_.out (by kernel_rfl)) (fun _ _ _ h => h) (Or.inl ⟨by rfl, ?_⟩) ?_ ?_
    rotate_left
    ·intro w'
     go_simp
     with_reducible rfl
    rotate_left
    ·simp only [Act.put, sB, i64_w, i32_w]
     rfl
    refine pure_ (i := 25) (N := (some 64)) (v := ?_) (a' := ?_) #[true, true, true, true, true, true, true, true, true, true, true, true, true, true, true, true, true, true, true, true, true, true, true, true, true, true, false, false, false, false, false, false, false] rfl rfl (any_of HT_.out (by kernel_rfl)) (fun _ _ _ h => h) (Or.inl ⟨by rfl, ?_⟩) ?_ ?_
    rotate_left
    ·intro w'
     go_simp
     with_reducible rfl
    rotate_left
    ·simp only [Act.put, sB, i64_w, i32_w]
     rfl
    refine pure_ (i := 27) (N := (some 66)) (v := ?_) (a' := ?_) #[true, true, true, true, true, true, true, true, true, true, true, true, true, true, true, true, true, true, true, true, true, true, true, true, true, true, false, true, false, false, false, false, false] rfl rfl (any_of HT_.out (by kernel_rfl)) (fun _ _ _ h => h) (Or.inl ⟨by rfl, ?_⟩) ?_ ?_
    rotate_left
    ·intro w'
     go_simp
     with_reducible rfl
    rotate_left
    ·simp only [Act.put, sB, i64_w, i32_w]
     rfl
    refine pure_ (i := 28) (N := (some 67)) (v := ?_) (a' := ?_) #[true, true, true, true, true, true, true, true, true, true, true, true, true, true, true, true, true, true, true, true, true, true, true, true, true, true, false, true, true, false, false, false, false] rfl rfl (any_of HT_.out (by kernel_rfl)) (fun _ _ _ h => h) (Or.inl ⟨by rfl, ?_⟩) ?_ ?_
    rotate_left
    ·intro w'
     go_simp
     with_reducible rfl
    rotate_left
    ·simp only [Act.put, sB, i64_w, i32_w]
     rfl
    refine pure_ (i := 29) (N := (some 68)) (v := ?_) (a' := ?_) #[true, true, true, true, true, true, true, true, true, true, true, true, true, true, true, true, true, true, true, true, true, true, true, true, true, true, false, true, true, true, false, false, false] rfl rfl (any_of HT_.out (by kernel_rfl)) (fun _ _ _ h => h) (Or.inl ⟨by rfl, ?_⟩) ?_ ?_
    rotate_left
    ·intro w'
     go_simp
     with_reducible rfl
    rotate_left
    ·simp only [Act.put, sB, i64_w, i32_w]
     rfl
    refine twoL_ (i := 26) (j := 30) (Ni := (some 65)) (Nj := (some 69)) #[true, true, true, true, true, true, true, true, true, true, true, true, true, true, true, true, true, true, true, true, true, true, true, true, true, true, true, true, true, true, false, false, false] #[true, true, true, true, true, true, true, true, true, true, true, true, true, true, true, true, true, true, true, true, true, true, true, true, true, true, false, true, true, true, true, false, false] rfl rfl rfl rfl (two_of HT_.out (by kernel_rfl)) (by decide) (by decide) (fun K hK => ?_) (fun K hK => ?_)
    ·refine goes_ Try.func21 (by kernel_rfl) rfl #[.pointer (some ⟨g, 0, none⟩)] (by rfl) rfl rfl (by simp [Act.eval]) ?_
     refine (lost_calls w28 HL9.out).mono ?_
     rintro e w29 ⟨rfl, rfl⟩
     refine ⟨_, rfl, ?_⟩
     refine hK.out _ _ ?_
     clear hK K
     refine norm_ (a' := ?_) ?_ ?_
     rotate_left
     ·show Act.put _ (some 65) _ = _
      simp only [Act.put, sB, i64_w, i32_w]
      rfl
     refine last_ (i := 30) (N := (some 69)) #[true, true, true, true, true, true, true, true, true, true, true, true, true, true, true, true, true, true, true, true, true, true, true, true, true, true, true, true, true, true, true, false, false] rfl rfl (one_of HT_.out (by kernel_rfl)) (by decide) (fun K hK => ?_)
     refine value_ (w1 := ?_) (v := ?_) (by rfl) rfl ?_ ?_
     rotate_left 2
     ·go_simp
      constructor
      ·rfl
      ·rfl
     refine hK.out _ _ ?_
     clear hK K
     refine norm_ (a' := ?_) ?_ ?_
     rotate_left
     ·show Act.put _ (some 69) _ = _
      simp only [Act.put, sB, i64_w, i32_w]
      rfl
     refine pure_ (i := 31) (N := (some 70)) (v := ?_) (a' := ?_) #[true, true, true, true, true, true, true, true, true, true, true, true, true, true, true, true, true, true, true, true, true, true, true, true, true, true, true, true, true, true, true, true, false] rfl rfl (any_of HT_.out (by kernel_rfl)) (fun _ _ _ h => h) (Or.inl ⟨by rfl, ?_⟩) ?_ ?_
     rotate_left
     ·intro w'
      go_simp
      with_reducible rfl
     rotate_left
     ·simp only [Act.put, sB, i64_w, i32_w]
      rfl
     refine pure_ (i := 32) (N := (some 71)) (v := ?_) (a' := ?_) #[true, true, true, true, true, true, true, true, true, true, true, true, true, true, true, true, true, true, true, true, true, true, true, true, true, true, true, true, true, true, true, true, true] rfl rfl (any_of HT_.out (by kernel_rfl)) (fun _ _ _ h => h) (Or.inl ⟨by rfl, ?_⟩) ?_ ?_
     rotate_left
     ·intro w'
      go_simp
      with_reducible rfl
     rotate_left
     ·simp only [Act.put, sB, i64_w, i32_w]
      rfl
     refine done_ (done_of HT_.out (by kernel_rfl)) ?_
     try go_wp2
     go_roundw
     case rel => exact ⟨i + 1, lq, zs, A9, c9, B9, d9, by go_num, ⟨by omega, FZ HMZ.out HRM.out.2.1 HRM.out.2.2.1, FQ HMZ.out HRM.out.2.2.1 HX.out.2.2.1 HX.out.2.2.2⟩, HL9, HR9, HB9⟩
     case measure => simp [intOf]; omega
    ·refine value_ (w1 := ?_) (v := ?_) (by rfl) rfl ?_ ?_
     rotate_left 2
     ·go_simp
      constructor
      ·rfl
      ·rfl
     refine hK.out _ _ ?_
     clear hK K
     refine norm_ (a' := ?_) ?_ ?_
     rotate_left
     ·show Act.put _ (some 69) _ = _
      simp only [Act.put, sB, i64_w, i32_w]
      rfl
     refine last_ (i := 26) (N := (some 65)) #[true, true, true, true, true, true, true, true, true, true, true, true, true, true, true, true, true, true, true, true, true, true, true, true, true, true, true, true, true, true, true, false, false] rfl rfl (one_of HT_.out (by kernel_rfl)) (by decide) (fun K hK => ?_)
     refine goes_ Try.func21 (by kernel_rfl) rfl #[.pointer (some ⟨g, 0, none⟩)] (by rfl) rfl rfl (by simp [Act.eval]) ?_
     refine (lost_calls w28 HL9.out).mono ?_
     rintro e w29 ⟨rfl, rfl⟩
     refine ⟨_, rfl, ?_⟩
     refine hK.out _ _ ?_
     clear hK K
     refine norm_ (a' := ?_) ?_ ?_
     rotate_left
     ·show Act.put _ (some 65) _ = _
      simp only [Act.put, sB, i64_w, i32_w]
      rfl
     refine pure_ (i := 31) (N := (some 70)) (v := ?_) (a' := ?_) #[true, true, true, true, true, true, true, true, true, true, true, true, true, true, true, true, true, true, true, true, true, true, true, true, true, true, true, true, true, true, true, true, false] rfl rfl (any_of HT_.out (by kernel_rfl)) (fun _ _ _ h => h) (Or.inl ⟨by rfl, ?_⟩) ?_ ?_
     rotate_left
     ·intro w'
      go_simp
      with_reducible rfl
     rotate_left
     ·simp only [Act.put, sB, i64_w, i32_w]
      rfl
     refine pure_ (i := 32) (N := (some 71)) (v := ?_) (a' := ?_) #[true, true, true, true, true, true, true, true, true, true, true, true, true, true, true, true, true, true, true, true, true, true, true, true, true, true, true, true, true, true, true, true, true] rfl rfl (any_of HT_.out (by kernel_rfl)) (fun _ _ _ h => h) (Or.inl ⟨by rfl, ?_⟩) ?_ ?_
     rotate_left
     ·intro w'
      go_simp
      with_reducible rfl
     rotate_left
     ·simp only [Act.put, sB, i64_w, i32_w]
      rfl
     refine done_ (done_of HT_.out (by kernel_rfl)) ?_
     try go_wp2
     go_roundw
     case rel => exact ⟨i + 1, lq, zs, A9, c9, B9, d9, by go_num, ⟨by omega, FZ HMZ.out HRM.out.2.1 HRM.out.2.2.1, FQ HMZ.out HRM.out.2.2.1 HX.out.2.2.1 HX.out.2.2.2⟩, HL9, HR9, HB9⟩
     case measure => simp [intOf]; omega
  ·have q1 : decide ((i : Int) < (l.length : Int)) = false := decide_eq_false (by omega)
   have q2 : decide (i < l.length) = false := decide_eq_false hlt
   have HX2 : Aside0 (ys.length ≤ 65536) := ⟨by have := HX.out; have := RB.out; omega⟩
   clear HX hlt
   have HX := HX2
   clear HX2
   have hr1 := (blk_cell HR.out.1 1).trans rfl
   go_wp2
   refine start_ (n := 19) (S := fun w' => w'.cell? ⟨g2, 1, none⟩ = some (.slice B2 ys.length d2)) (ds := []) #[false, false, false, false, false, false, false, false, false, false, false, false, false, false, false, false, false, false, false] (by kernel_rfl) rfl rfl hr1 (fun hHeld => ?_); refine with_tabW jp12_tab jp12_bits (fun HT_ HW_ => ?_)
   have HL6 := asd (HL.out.below (below_drew1 (Below.refl _ _)))
   have HR6 := asd (HR.out.below (below_drew1 (Below.refl _ _)))
   have HB6 := asd (below_drew HB.out)
   clear HL HR HB hr1
   generalize wr.drew = w25 at HL6 HR6 HB6 hHeld ⊢
   refine pure_ (i := 0) (N := (some 72)) (v := ?_) (a' := ?_) #[true, false, false, false, false, false, false, false, false, false, false, false, false, false, false, false, false, false, false] rfl rfl (any_of HT_.out (by kernel_rfl)) (fun _ _ _ h => h) (Or.inl ⟨by rfl, ?_⟩) ?_ ?_
   rotate_left
   ·intro w'
    go_simp
    with_reducible rfl
   rotate_left
   ·simp only [Act.put, sB, i64_w, i32_w]
    rfl
   refine pure_ (i := 3) (N := (some 75)) (v := ?_) (a' := ?_) #[true, false, false, true, false, false, false, false, false, false, false, false, false, false, false, false, false, false, false] rfl rfl (any_of HT_.out (by kernel_rfl)) (fun _ _ _ h => h) (Or.inl ⟨by rfl, ?_⟩) ?_ ?_
   rotate_left
   ·intro w'
    go_simp
    with_reducible rfl
   rotate_left
   ·simp only [Act.put, sB, i64_w, i32_w]
    rfl
   refine pure_ (i := 4) (N := (some 76)) (v := ?_) (a' := ?_) #[true, false, false, true, true, false, false, false, false, false, false, false, false, false, false, false, false, false, false] rfl rfl (any_of HT_.out (by kernel_rfl)) (fun _ _ _ h => h) (Or.inl ⟨by rfl, ?_⟩) ?_ ?_
   rotate_left
   ·intro w'
    go_simp
    with_reducible rfl
   rotate_left
   ·simp only [Act.put, sB, i64_w, i32_w]
    rfl
   refine pure_ (i := 5) (N := (some 77)) (v := ?_) (a' := ?_) #[true, false, false, true, true, true, false, false, false, false, false, false, false, false, false, false, false, false, false] rfl rfl (any_of HT_.out (by kernel_rfl)) (fun _ _ _ h => h) (Or.inl ⟨by rfl, ?_⟩) ?_ ?_
   rotate_left
   ·intro w'
    go_simp
    with_reducible rfl
   rotate_left
   ·simp only [Act.put, sB, i64_w, i32_w]
    rfl
   refine take_ (i := 6) (N := (some 78)) (v := ?_) (a' := ?_) #[true, false, false, true, true, true, true, false, false, false, false, false, false, false, false, false, false, false, false] rfl rfl (take_ofW HT_.out HW_.out (by kernel_rfl)) (fun _ _ _ h => h) (Or.inl ⟨by rfl, ?_⟩) hHeld ?_ ?_
   rotate_left
   ·rintro w' s0
    go_simp
    with_reducible rfl
   rotate_left
   ·simp only [Act.put, sB, i64_w, i32_w]
    rfl
   refine one_ (i := 1) (N := (some 73)) #[true, true, false, true, true, true, true, false, false, false, false, false, false, false, false, false, false, false, false] rfl rfl (one_of HT_.out (by kernel_rfl)) (by decide) (fun K hK => ?_)
   refine goes_ Try.func24 (by kernel_rfl) rfl #[.pointer (some ⟨g, 0, none⟩)] (by rfl) rfl rfl (by simp [Act.eval]) ?_
   refine (all_calls w25 HL6.out (by rw [List.length_map]; have := HX.out; omega)).mono ?_
   rintro e w26 ⟨v, rfl, ho, hb⟩
   have HL7 := asd (HL6.out.below hb)
   have HR7 := asd (HR6.out.below hb)
   have HB7 := asd (below_step HB6.out hb)
   obtain ⟨E2, e2, rfl⟩ := Kd.R_slice ho
   have HE2 := asd (C_ofR ho)
   have HD2 := asd (Kd.R_reads' ho).2.1
   clear ho hb HL6 HR6 HB6
   refine ⟨_, rfl, ?_⟩
   refine hK.out _ _ ((blk_cell HR7.out.1 1).trans rfl) (fun hHeld => ?_)
   clear hK K
   refine norm_ (a' := ?_) ?_ ?_
   rotate_left
   ·show Act.put _ (some 73) _ = _
    simp only [Act.put, sB, i64_w, i32_w]
    rfl
   refine one_ (i := 2) (N := (some 74)) #[true, true, true, true, true, true, true, false, false, false, false, false, false, false, false, false, false, false, false] rfl rfl (one_of HT_.out (by kernel_rfl)) (by decide) (fun K hK => ?_)
   refine goes_ Try.func23 (by kernel_rfl) rfl #[.slice E2 (ys.map toE).length e2] (by rfl) rfl rfl (by simp [Act.eval]) ?_
   refine (refs_calls w26 ys HE2.out HD2.out (by have := HX.out; omega)).mono ?_
   rintro e w27 ⟨v, rfl, ho, hb⟩
   have HL8 := asd (HL7.out.below hb)
   have HR8 := asd (HR7.out.below hb)
   have HB8 := asd (below_step HB7.out hb)
   obtain ⟨E3, e3, rfl⟩ := Kd.R_slice ho
   have HE3 := asd (C_ofR ho)
   have HD3 := asd (Kd.R_reads' ho).2.1
   clear ho hb HL7 HR7 HB7 HE2 HD2
   refine ⟨_, rfl, ?_⟩
   refine hK.out _ _ ((blk_cell HR8.out.1 1).trans rfl) (fun hHeld => ?_)
   clear hK K
   refine norm_ (a' := ?_) ?_ ?_
   rotate_left
   ·show Act.put _ (some 74) _ = _
    simp only [Act.put, sB, i64_w, i32_w]
    rfl
   refine one_ (i := 7) (N := (some 79)) #[true, true, true, true, true, true, true, true, false, false, false, false, false, false, false, false, false, false, false] rfl rfl (one_of HT_.out (by kernel_rfl)) (by decide) (fun K hK => ?_)
   refine goes_ Try.func22 (by kernel_rfl) rfl #[.slice E3 ys.length e3, .slice B2 ys.length d2] (by rfl) rfl rfl (by simp [Act.eval]) ?_
   refine (same_calls w27 ys ys HE3.out HD3.out (C_ofR HR8.out.2.2) (Kd.R_reads' HR8.out.2.2).2.1 (by have := HX.out; omega)).mono ?_
   rintro e w28 ⟨rfl, hd⟩
   have hb := hd.below
   rw [show decide (ys = ys) = true by simp]
   have HL9 := asd (HL8.out.below hb)
   have HR9 := asd (HR8.out.below hb)
   have HB9 := asd (below_step HB8.out hb)
   clear hd hb HL8 HR8 HB8 HE3 HD3
   refine ⟨_, rfl, ?_⟩
   refine hK.out _ _ ((blk_cell HR9.out.1 1).trans rfl) (fun hHeld => ?_)
   clear hK K
   refine norm_ (a' := ?_) ?_ ?_
   rotate_left
   ·show Act.put _ (some 79) _ = _
    simp only [Act.put, sB, i64_w, i32_w]
    rfl
   refine pure_ (i := 8) (N := (some 80)) (v := ?_) (a' := ?_) #[true, true, true, true, true, true, true, true, true, false, false, false, false, false, false, false, false, false, false] rfl rfl (any_of HT_.out (by kernel_rfl)) (fun _ _ _ h => h) (Or.inl ⟨by rfl, ?_⟩) ?_ ?_
   rotate_left
   ·intro w'
    go_simp
    with_reducible rfl
   rotate_left
   ·simp only [Act.put, sB, i64_w, i32_w]
    rfl
   refine pure_ (i := 9) (N := (some 81)) (v := ?_) (a' := ?_) #[true, true, true, true, true, true, true, true, true, true, false, false, false, false, false, false, false, false, false] rfl rfl (any_of HT_.out (by kernel_rfl)) (fun _ _ _ h => h) (Or.inl ⟨by rfl, ?_⟩) ?_ ?_
   rotate_left
   ·intro w'
    go_simp
    with_reducible rfl
   rotate_left
   ·simp only [Act.put, sB, i64_w, i32_w]
    rfl
   refine pure_ (i := 10) (N := (some 82)) (v := ?_) (a' := ?_) #[true, true, true, true, true, true, true, true, true, true, true, false, false, false, false, false, false, false, false] rfl rfl (any_of HT_.out (by kernel_rfl)) (fun _ _ _ h => h) (Or.inl ⟨by rfl, ?_⟩) ?_ ?_
   rotate_left
   ·intro w'
    go_simp
    with_reducible rfl
   rotate_left
   ·simp only [Act.put, sB, i64_w, i32_w]
    rfl
   refine pure_ (i := 13) (N := (some 85)) (v := ?_) (a' := ?_) #[true, true, true, true, true, true, true, true, true, true, true, false, false, true, false, false, false, false, false] rfl rfl (any_of HT_.out (by kernel_rfl)) (fun _ _ _ h => h) (Or.inl ⟨by rfl, ?_⟩) ?_ ?_
   rotate_left
   ·intro w'
    go_simp
    with_reducible rfl
   rotate_left
   ·simp only [Act.put, sB, i64_w, i32_w]
    rfl
   refine pure_ (i := 14) (N := (some 86)) (v := ?_) (a' := ?_) #[true, true, true, true, true, true, true, true, true, true, true, false, false, true, true, false, false, false, false] rfl rfl (any_of HT_.out (by kernel_rfl)) (fun _ _ _ h => h) (Or.inl ⟨by rfl, ?_⟩) ?_ ?_
   rotate_left
   ·intro w'
    go_simp
    with_reducible rfl
   rotate_left
   ·simp only [Act.put, sB, i64_w, i32_w]
    rfl
   refine one_ (i := 11) (N := (some 83)) #[true, true, true, true, true, true, true, true, true, true, true, true, false, true, true, false, false, false, false] rfl rfl (one_of HT_.out (by kernel_rfl)) (by decide) (fun K hK => ?_)
   refine goes_ Try.func25 (by kernel_rfl) rfl #[.pointer (some ⟨g, 0, none⟩), .slice KK ks.length dk] (by rfl) rfl rfl (by simp [Act.eval]) ?_
   refine (of_calls (d := dk) w28 HL9.out (by rw [List.length_map]; have := HX.out; omega) (Kd.C_below HK.out HB9.out) (by have := HKL.out; omega)).mono ?_
   rintro e w29 ⟨E4, e4, rfl, hE, hb⟩
   have HLa := asd (HL9.out.below hb)
   have HRa := asd (HR9.out.below hb)
   have HBa := asd (below_step HB9.out hb)
   rw [of_ref] at hE ⊢
   have HE4 := asd hE
   clear hE hb HL9 HR9 HB9
   refine ⟨_, rfl, ?_⟩
   refine hK.out _ _ ((blk_cell HRa.out.1 1).trans rfl) (fun hHeld => ?_)
   clear hK K
   refine norm_ (a' := ?_) ?_ ?_
   rotate_left
   ·show Act.put _ (some 83) _ = _
    simp only [Act.put, sB, i64_w, i32_w]
    rfl
   refine one_ (i := 12) (N := (some 84)) #[true, true, true, true, true, true, true, true, true, true, true, true, true, true, true, false, false, false, false] rfl rfl (one_of HT_.out (by kernel_rfl)) (by decide) (fun K hK => ?_)
   refine goes_ Try.func23 (by kernel_rfl) rfl #[.slice E4 ((refKinds ks ys).map toE).length e4] (by rfl) rfl rfl (by simp [Act.eval]) ?_
   refine (refs_calls w29 (refKinds ks ys) HE4.out.1 HE4.out.2 (by have := refKinds_le ks ys; have := HX.out; omega)).mono ?_
   rintro e w30 ⟨v, rfl, ho, hb⟩
   have HLb := asd (HLa.out.below hb)
   have HRb := asd (HRa.out.below hb)
   have HBb := asd (below_step HBa.out hb)
   obtain ⟨E5, e5, rfl⟩ := Kd.R_slice ho
   have HE5 := asd (C_ofR ho)
   have HD5 := asd (Kd.R_reads' ho).2.1
   clear ho hb HLa HRa HBa HE4
   refine ⟨_, rfl, ?_⟩
   refine hK.out _ _ ((blk_cell HRb.out.1 1).trans rfl) (fun hHeld => ?_)
   clear hK K
   refine norm_ (a' := ?_) ?_ ?_
   rotate_left
   ·show Act.put _ (some 84) _ = _
    simp only [Act.put, sB, i64_w, i32_w]
    rfl
   refine one_ (i := 15) (N := (some 87)) #[true, true, true, true, true, true, true, true, true, true, true, true, true, true, true, true, false, false, false] rfl rfl (one_of HT_.out (by kernel_rfl)) (by decide) (fun K hK => ?_)
   refine goes_ Try.func26 (by kernel_rfl) rfl #[.pointer (some ⟨g2, 0, none⟩), .slice KK ks.length dk] (by rfl) rfl rfl (by simp [Act.eval]) ?_
   refine (rof_calls (d := dk) w30 HRb.out (by have := HX.out; omega) (Kd.C_below HK.out HBb.out) (by have := HKL.out; omega)).mono ?_
   rintro e w31 ⟨v, rfl, ho, hb⟩
   have HLc := asd (HLb.out.below hb)
   have HRc := asd (HRb.out.below hb)
   have HBc := asd (below_step HBb.out hb)
   have HE6 := asd (Kd.C_below HE5.out hb)
   obtain ⟨E7, e7, rfl⟩ := Kd.R_slice ho
   have HE7 := asd (C_ofR ho)
   have HD7 := asd (Kd.R_reads' ho).2.1
   clear ho hb HLb HRb HBb HE5
   refine ⟨_, rfl, ?_⟩
   refine hK.out _ _ ((blk_cell HRc.out.1 1).trans rfl) (fun hHeld => ?_)
   clear hK K
   refine norm_ (a' := ?_) ?_ ?_
   rotate_left
   ·show Act.put _ (some 87) _ = _
    simp only [Act.put, sB, i64_w, i32_w]
    rfl
   refine one_ (i := 16) (N := (some 88)) #[true, true, true, true, true, true, true, true, true, true, true, true, true, true, true, true, true, false, false] rfl rfl (one_of HT_.out (by kernel_rfl)) (by decide) (fun K hK => ?_)
   refine goes_ Try.func22 (by kernel_rfl) rfl #[.slice E5 (refKinds ks ys).length e5, .slice E7 (refKinds ks ys).length e7] (by rfl) rfl rfl (by simp [Act.eval]) ?_
   refine (same_calls w31 _ _ HE6.out HD5.out HE7.out HD7.out (by have := refKinds_le ks ys; have := HX.out; omega)).mono ?_
   rintro e w32 ⟨rfl, hd⟩
   have hb := hd.below
   rw [show decide (refKinds ks ys = refKinds ks ys) = true by simp]
   have HLd := asd (HLc.out.below hb)
   have HRd := asd (HRc.out.below hb)
   have HBd := asd (below_step HBc.out hb)
   clear hd hb HLc HRc HBc
   refine ⟨_, rfl, ?_⟩
   refine hK.out _ _ ((blk_cell HRd.out.1 1).trans rfl) (fun hHeld => ?_)
   clear hK K
   refine norm_ (a' := ?_) ?_ ?_
   rotate_left
   ·show Act.put _ (some 88) _ = _
    simp only [Act.put, sB, i64_w, i32_w]
    rfl
   refine pure_ (i := 17) (N := (some 89)) (v := ?_) (a' := ?_) #[true, true, true, true, true, true, true, true, true, true, true, true, true, true, true, true, true, true, false] rfl rfl (any_of HT_.out (by kernel_rfl)) (fun _ _ _ h => h) (Or.inl ⟨by rfl, ?_⟩) ?_ ?_
   rotate_left
   ·intro w'
    go_simp
    with_reducible rfl
   rotate_left
   ·simp only [Act.put, sB, i64_w, i32_w]
    rfl
   refine pure_ (i := 18) (N := (some 6)) (v := ?_) (a' := ?_) #[true, true, true, true, true, true, true, true, true, true, true, true, true, true, true, true, true, true, true] rfl rfl (any_of HT_.out (by kernel_rfl)) (fun _ _ _ h => h) (Or.inl ⟨by rfl, ?_⟩) ?_ ?_
   rotate_left
   ·intro w'
    go_simp
    with_reducible rfl
   rotate_left
   ·simp only [Act.put, sB, i64_w, i32_w]
    rfl
   refine done_ (done_of HT_.out (by kernel_rfl)) ?_
   try go_wp2
   go_ret
   exact ⟨rfl, HBd.out⟩
end
end Go.Proofs.Ytalimpniimgheaa.Fn
